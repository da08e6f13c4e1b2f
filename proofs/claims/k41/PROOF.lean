import PyProof.Rows.All
import Wide.All
import OpenK.AllK
import Wide.FinOn
import HandS.ForMost
import HandS.Defaults
import HandS.Walk
import HandS.Zip
import HandS.TupAny
import HandS.TupLe
import HandS.TupLen
import HandS.Style
import HandS.Flow
import HandS.Wide
import HandS.Deep
import HandS.Small
import HandS.Text
import HandS.SetFor
import HandS.DictComp
import HandS.Conv
import HandS.TupMul
import HandS.IsInst
import HandS.Set
import HandS.TupSets
import KE.DataEq
import KE.DataCmp
import KE.DataFind
import KE.DataAny
import KE.LtData
import KE.DataMinMax
import KE.SortData
import KE.DataIsa
import PyProof.ReprRoads
import KE.KStateDown
import KE.GoesEnum
import KE.KTupSum
import KE.KDictPairs
import KE.KRevSl
import HandS.Head0
import HandS.Head1
import HandS.Head2
import HandS.HeadEnd
import HandS.HeadHook1
import HandS.HeadHook2
import HandS.HeadHook3
import HandS.HeadHook4
import HandS.Lambda
import HandS.EndTab
import HandS.ExcOwn
import HandS.ExcIs
import HandS.TryOnly
import HandS.ExcBuiltin
import KE.KDflt
import PySem.Challenge.RW_cordfire_k41_whole_jets_in_order_and_sky
set_option Elab.async false
set_option linter.all false
set_option maxRecDepth 100000
set_option maxHeartbeats 2000000
namespace DL
open PySem PySem.Spec PyProof.Rows L2

abbrev D := PyData
abbrev Pd := Addr → Prop

def keyD : Key → D
  | .inl i => .int i
  | .inr x => .str x
def keyTD (k : List Key) : D := .tuple (k.map keyD)

/-! Rep: v stands for the data d; its lists and dicts lie in P (nothing changes there any more) -/
mutual
inductive Rep (K : PySem.W.Frag) (P : Pd) (H : Hp) : V → D → Prop
  | non : Rep K P H .non .none
  | bl (b : Bool) : Rep K P H (.bl b) (.bool b)
  | int (i : Int) : Rep K P H (.int i) (.int i)
  | str (x : Str) : Rep K P H (.str x) (.str x)
  | lst {a : Addr} {vs : List V} {ds : List D} : H a = some (.lst vs) → P a → Reps K P H vs ds → Rep K P H (.ref a) (.list ds)
  | tup {a : Addr} {vs : List V} {ds : List D} : H a = some (.tup vs) → Reps K P H vs ds → Rep K P H (.ref a) (.tuple ds)
  | dK {a : Addr} {kvs : List (Key × V)} {ds : List D} : H a = some (.dK kvs) → P a → Reps K P H (kvs.map (·.2)) ds → Rep K P H (.ref a) (.dict ((kvs.map fun q => keyD q.1).zip ds))
  | dT {a : Addr} {kvs : List (List Key × V)} {ds : List D} : H a = some (.dT kvs) → P a → Reps K P H (kvs.map (·.2)) ds → Rep K P H (.ref a) (.dict ((kvs.map fun q => keyTD q.1).zip ds))
inductive Reps (K : PySem.W.Frag) (P : Pd) (H : Hp) : List V → List D → Prop
  | nil : Reps K P H [] []
  | cons {v : V} {vs : List V} {d : D} {ds : List D} : Rep K P H v d → Reps K P H vs ds → Reps K P H (v :: vs) (d :: ds)
end

/-- what lies in P, and each tuple, stays -/
structure Kept (K : PySem.W.Frag) (P : Pd) (H : Hp) (P' : Pd) (H' : Hp) : Prop where
  sub : ∀ a, P a → P' a
  at_ : ∀ a o, H a = some o → P a → H' a = some o
  tup : ∀ a xs, H a = some (.tup xs) → H' a = some (.tup xs)

section
variable {K : PySem.W.Frag} {P P' : Pd} {H H' : Hp}
mutual
theorem Rep.kept (k : Kept K P H P' H') : ∀ {v : V} {d : D}, Rep K P H v d → Rep K P' H' v d
  | _, _, .non => .non
  | _, _, .bl b => .bl b
  | _, _, .int i => .int i
  | _, _, .str x => .str x
  | _, _, .lst h p r => .lst (k.at_ _ _ h p) (k.sub _ p) (Reps.kept k r)
  | _, _, .tup h r => .tup (k.tup _ _ h) (Reps.kept k r)
  | _, _, .dK h p r => .dK (k.at_ _ _ h p) (k.sub _ p) (Reps.kept k r)
  | _, _, .dT h p r => .dT (k.at_ _ _ h p) (k.sub _ p) (Reps.kept k r)
theorem Reps.kept (k : Kept K P H P' H') : ∀ {vs : List V} {ds : List D}, Reps K P H vs ds → Reps K P' H' vs ds
  | _, _, .nil => .nil
  | _, _, .cons r rs => .cons (Rep.kept k r) (Reps.kept k rs)
end
theorem Reps.length : ∀ {vs : List V} {ds : List D}, Reps K P H vs ds → vs.length = ds.length
  | _, _, .nil => rfl
  | _, _, .cons _ rs => by rw [List.length_cons, List.length_cons, Reps.length rs]
theorem Reps.app : ∀ {vs : List V} {ds : List D} {ws : List V} {es : List D}, Reps K P H vs ds → Reps K P H ws es → Reps K P H (vs ++ ws) (ds ++ es)
  | _, _, _, _, .nil, r => r
  | _, _, _, _, .cons r rs, q => .cons r (Reps.app rs q)
theorem Reps.get : ∀ {vs : List V} {ds : List D} {i : Nat} {v : V}, Reps K P H vs ds → vs[i]? = some v → ∃ d, ds[i]? = some d ∧ Rep K P H v d
  | _, _, _, _, .nil, e => by simp at e
  | _, _, 0, _, .cons r _, e => by
    rw [List.getElem?_cons_zero] at e
    cases e
    exact ⟨_, rfl, r⟩
  | _, _, i + 1, _, .cons _ rs, e => by
    rw [List.getElem?_cons_succ] at e
    obtain ⟨d, h1, h2⟩ := Reps.get rs e
    exact ⟨d, by rw [List.getElem?_cons_succ]; exact h1, h2⟩
theorem Reps.get' : ∀ {vs : List V} {ds : List D} {i : Nat} {d : D}, Reps K P H vs ds → ds[i]? = some d → ∃ v, vs[i]? = some v ∧ Rep K P H v d
  | _, _, _, _, .nil, e => by simp at e
  | _, _, 0, _, .cons r _, e => by
    rw [List.getElem?_cons_zero] at e
    cases e
    exact ⟨_, rfl, r⟩
  | _, _, i + 1, _, .cons _ rs, e => by
    rw [List.getElem?_cons_succ] at e
    obtain ⟨v, h1, h2⟩ := Reps.get' rs e
    exact ⟨v, by rw [List.getElem?_cons_succ]; exact h1, h2⟩
theorem Reps.take : ∀ {vs : List V} {ds : List D} (n : Nat), Reps K P H vs ds → Reps K P H (vs.take n) (ds.take n)
  | _, _, 0, _ => .nil
  | _, _, _ + 1, .nil => .nil
  | _, _, n + 1, .cons r rs => .cons r (Reps.take n rs)
theorem Reps.drop : ∀ {vs : List V} {ds : List D} (n : Nat), Reps K P H vs ds → Reps K P H (vs.drop n) (ds.drop n)
  | _, _, 0, r => r
  | _, _, _ + 1, .nil => .nil
  | _, _, n + 1, .cons _ rs => Reps.drop n rs
theorem Reps.set {v : V} {d : D} (r : Rep K P H v d) : ∀ {vs : List V} {ds : List D} (i : Nat), Reps K P H vs ds → Reps K P H (vs.set i v) (ds.set i d)
  | _, _, _, .nil => .nil
  | _, _, 0, .cons _ rs => .cons r rs
  | _, _, i + 1, .cons q rs => .cons q (Reps.set r i rs)
theorem Reps.erase : ∀ {vs : List V} {ds : List D} (i : Nat), Reps K P H vs ds → Reps K P H (vs.eraseIdx i) (ds.eraseIdx i)
  | _, _, _, .nil => .nil
  | _, _, 0, .cons _ rs => rs
  | _, _, i + 1, .cons q rs => .cons q (Reps.erase i rs)
theorem Reps.reverse : ∀ {vs : List V} {ds : List D}, Reps K P H vs ds → Reps K P H vs.reverse ds.reverse
  | _, _, .nil => .nil
  | _, _, .cons r rs => by
    rw [List.reverse_cons, List.reverse_cons]
    exact Reps.app (Reps.reverse rs) (.cons r .nil)
theorem Reps.ints : ∀ (ns : List Int), Reps K P H (ns.map V.int) (ns.map .int)
  | [] => .nil
  | n :: ns => .cons (.int n) (Reps.ints ns)
theorem Reps.strs : ∀ (ns : List Str), Reps K P H (ns.map V.str) (ns.map .str)
  | [] => .nil
  | n :: ns => .cons (.str n) (Reps.strs ns)
theorem Reps.intsOf : ∀ {vs : List V} {ns : List Int}, Reps K P H vs (ns.map .int) → vs = ns.map V.int
  | _, [], .nil => rfl
  | _, n :: ns, .cons r rs => by
    cases r
    rw [Reps.intsOf rs, List.map_cons]
theorem Reps.strsOf : ∀ {vs : List V} {ns : List Str}, Reps K P H vs (ns.map .str) → vs = ns.map V.str
  | _, [], .nil => rfl
  | _, n :: ns, .cons r rs => by
    cases r
    rw [Reps.strsOf rs, List.map_cons]
theorem Reps.blsOf : ∀ {vs : List V} {ns : List Bool}, Reps K P H vs (ns.map .bool) → vs = ns.map V.bl
  | _, [], .nil => rfl
  | _, n :: ns, .cons r rs => by
    cases r
    rw [Reps.blsOf rs, List.map_cons]
end

/-! no list, no dict in it: it never changes -/
mutual
def imm : D → Bool
  | .none => true
  | .bool _ => true
  | .int _ => true
  | .str _ => true
  | .list _ => false
  | .tuple xs => imms xs
  | .dict _ => false
def imms : List D → Bool
  | [] => true
  | x :: xs => imm x && imms xs
end
section
variable {K : PySem.W.Frag} {P P' : Pd} {H H' : Hp}
mutual
theorem Rep.imm (k : ∀ a xs, H a = some (.tup xs) → H' a = some (.tup xs)) : ∀ {v : V} {d : D}, Rep K P H v d → imm d = true → Rep K P' H' v d
  | _, _, .non, _ => .non
  | _, _, .bl b, _ => .bl b
  | _, _, .int i, _ => .int i
  | _, _, .str x, _ => .str x
  | _, _, .lst h p r, i => by simp [DL.imm] at i
  | _, _, .tup h r, i => .tup (k _ _ h) (Reps.imm k r (by simpa [DL.imm] using i))
  | _, _, .dK h p r, i => by simp [DL.imm] at i
  | _, _, .dT h p r, i => by simp [DL.imm] at i
theorem Reps.imm (k : ∀ a xs, H a = some (.tup xs) → H' a = some (.tup xs)) : ∀ {vs : List V} {ds : List D}, Reps K P H vs ds → imms ds = true → Reps K P' H' vs ds
  | _, _, .nil, _ => .nil
  | _, _, .cons r rs, i => by
    rw [DL.imms, Bool.and_eq_true] at i
    exact .cons (Rep.imm k r i.1) (Reps.imm k rs i.2)
end
end

/-! ### the hand, the state -/
/-- the hand; the tables of code objects -/
structure Hd where
  h : Option (Addr × Addr)
  T : List (Addr × Str) := []
abbrev hd0 : Hd := ⟨none, []⟩
def hdH : Option (Addr × Addr) → Addr → Prop
  | none, _ => False
  | some p, x => x = p.1 ∨ x = p.2
def hdA (hd : Hd) (x : Addr) : Prop := hdH hd.h x ∨ ∃ q ∈ hd.T, x = q.1
/-- what the hand's ints keep; the tables of code objects that the law knows -/
structure Hv where
  ok : List Int → List Int → Prop
  T : List (Addr × Str)
/-- K: the written part -/
structure Cfg where
  K : PySem.W.Frag
  hv : Hv
def HandI (c : Cfg) : Option (Addr × Addr) → Hp → Prop
  | none, _ => True
  | some p, H => p.1 ≠ p.2 ∧ ∃ ns ms : List Int, H p.1 = some (.lst (.ref p.2 :: ns.map V.int)) ∧ H p.2 = some (.lst (ms.map V.int)) ∧ c.hv.ok ns ms
structure HandInv (c : Cfg) (hd : Hd) (H : Hp) : Prop where
  i : HandI c hd.h H
  t : LamX.Tabs hd.T H
  e : hd.T = c.hv.T
structure J (c : Cfg) (hd : Hd) (P : Pd) (H : Hp) : Prop where
  ptr : ∀ a, P a → H a ≠ none
  hand : HandInv c hd H
  hnp : ∀ a, hdA hd a → ¬ P a
structure Grow (c : Cfg) (hd : Hd) (P : Pd) (H : Hp) (hd' : Hd) (P' : Pd) (H' : Hp) : Prop where
  sub : ∀ a, P a → P' a
  new : ∀ a, P' a → P a ∨ H a = none
  keep : ∀ a o, H a = some o → ¬ hdA hd a → H' a = some o
  hds : hd' = hd ∨ (hd = hd0 ∧ ∀ a, hdA hd' a → H a = none)
  j : J c hd' P' H'
section
variable {c : Cfg} {hd hd' hd2 : Hd} {P P' P2 : Pd} {H H' H2 : Hp}
theorem HandInv.lst (h : HandInv c hd H) {a : Addr} (m : hdA hd a) : (∃ vs, H a = some (.lst vs)) ∨ ∃ ps, H a = some (.tbl ps) := by
  rcases m with m | ⟨q, hq, m⟩
  · have hi := h.i
    cases e : hd.h with
    | none => rw [e] at m; exact m.elim
    | some p =>
      rw [e] at m hi
      obtain ⟨_, ns, ms, h1, h2, _⟩ := hi
      rcases m with m | m
      · rw [m]; exact .inl ⟨_, h1⟩
      · rw [m]; exact .inl ⟨_, h2⟩
  · obtain ⟨ps, h1, _⟩ := h.t q hq
    rw [m]; exact .inr ⟨ps, h1⟩
theorem HandInv.no (h : HandInv c hd H) {a : Addr} {o : Option HO} (e : H a = o) (n1 : ∀ vs, o ≠ some (.lst vs)) (n2 : ∀ ps, o ≠ some (.tbl ps)) : ¬ hdA hd a := fun m => by
  rcases h.lst m with ⟨vs, q⟩ | ⟨vs, q⟩
  · exact n1 vs (e.symm.trans q)
  · exact n2 vs (e.symm.trans q)
theorem J.refl (j : J c hd P H) : Grow c hd P H hd P H := ⟨fun _ h => h, fun _ h => .inl h, fun _ _ h _ => h, .inl rfl, j⟩
theorem Grow.there (g : Grow c hd P H hd' P' H') (j : J c hd P H) {a : Addr} {o : HO} (h : H a = some o) : ∃ o', H' a = some o' := by
  by_cases m : hdA hd a
  · rcases g.hds with e | ⟨e, _⟩
    · rcases g.j.hand.lst (a := a) (by rw [e]; exact m) with ⟨vs, q⟩ | ⟨vs, q⟩
      · exact ⟨_, q⟩
      · exact ⟨_, q⟩
    · rw [e] at m
      rcases m with m | ⟨q, hq, _⟩
      · exact m.elim
      · cases hq
  · exact ⟨o, g.keep a o h m⟩
theorem Grow.free (g : Grow c hd P H hd' P' H') (j : J c hd P H) {a : Addr} (h : H' a = none) : H a = none := by
  cases e : H a with
  | none => rfl
  | some o =>
    obtain ⟨o', q⟩ := g.there j e
    rw [h] at q; cases q
theorem Grow.trans (j : J c hd P H) (g : Grow c hd P H hd' P' H') (g2 : Grow c hd' P' H' hd2 P2 H2) : Grow c hd P H hd2 P2 H2 where
  sub := fun a h => g2.sub a (g.sub a h)
  new := fun a h => by
    rcases g2.new a h with h | h
    · exact g.new a h
    · exact .inr (g.free j h)
  keep := fun a o h m => by
    refine g2.keep a o (g.keep a o h m) fun m' => ?_
    rcases g.hds with e | ⟨e, f⟩
    · rw [e] at m'; exact m m'
    · rw [f a m'] at h; cases h
  hds := by
    rcases g.hds with e | ⟨e, f⟩
    · rcases g2.hds with e2 | ⟨e2, f2⟩
      · exact .inl (e2.trans e)
      · exact .inr ⟨e ▸ e2, fun a m => g.free j (f2 a m)⟩
    · rcases g2.hds with e2 | ⟨e2, f2⟩
      · exact .inr ⟨e, fun a m => f a (by rw [← e2]; exact m)⟩
      · exact .inr ⟨e, fun a m => g.free j (f2 a m)⟩
  j := g2.j
theorem Grow.tup (g : Grow c hd P H hd' P' H') (j : J c hd P H) {a : Addr} {xs : List V} (h : H a = some (.tup xs)) : H' a = some (.tup xs) :=
  g.keep a _ h (j.hand.no h (fun _ z => by cases z) fun _ z => by cases z)
theorem Grow.kept (g : Grow c hd P H hd' P' H') (j : J c hd P H) : Kept c.K P H P' H' :=
  ⟨g.sub, fun a o h p => g.keep a o h fun m => j.hnp a m p, fun a xs h => g.tup j h⟩
theorem HandInv.imp (h : HandInv c hd H) (e : ∀ b o, H b = some o → H' b = some o) : HandInv c hd H' := by
  refine ⟨?_, h.t.ext e, h.e⟩
  have hi := h.i
  cases q : hd.h with
  | none => trivial
  | some p =>
    rw [q] at hi
    obtain ⟨n1, ns, ms, h1, h2, h3⟩ := hi
    exact ⟨n1, ns, ms, e _ _ h1, e _ _ h2, h3⟩
/-- no code object -/
def NC (o : HO) : Prop := ∀ c q, o ≠ LamX.CodeO c q
theorem nc_lst {vs : List V} : NC (.lst vs) := fun c q z => by unfold LamX.CodeO at z; cases z
theorem nc_dK {vs : List (Key × V)} : NC (.dK vs) := fun c q z => by unfold LamX.CodeO at z; cases z
theorem nc_dT {vs : List (List Key × V)} : NC (.dT vs) := fun c q z => by unfold LamX.CodeO at z; cases z
theorem tabs_to {T : List (Addr × Str)} (t : LamX.Tabs T H) (e : ∀ b o, H b = some o → (∀ vs, o ≠ .lst vs) → H' b = some o) : LamX.Tabs T H' := fun q hq => by
  obtain ⟨ps, h1, h2, h3⟩ := t q hq
  refine ⟨ps, e _ _ h1 (fun _ z => by cases z), h2, fun pos cv hc => ?_⟩
  obtain ⟨x, e1, e2⟩ := h3 pos cv hc
  exact ⟨x, e1, e _ _ e2 fun vs z => by unfold LamX.CodeO at z; cases z⟩
/-- an object is written that is neither the hand's nor a table nor a code object -/
theorem HandInv.mut (h : HandInv c hd H) {p : Addr} {ob : HO} (o' : HO) (nh : ¬ hdA hd p) (hp : H p = some ob) (nc : NC ob) : HandInv c hd (L2.upd H p o') := by
  refine ⟨?_, fun q hq => ?_, h.e⟩
  · have hi := h.i
    cases e : hd.h with
    | none => trivial
    | some q =>
      rw [e] at hi
      obtain ⟨n1, ns, ms, h1, h2, h3⟩ := hi
      have e1 : q.1 ≠ p := fun z => nh (.inl (by rw [e]; exact .inl z.symm))
      have e2 : q.2 ≠ p := fun z => nh (.inl (by rw [e]; exact .inr z.symm))
      exact ⟨n1, ns, ms, by rw [upd_ne e1]; exact h1, by rw [upd_ne e2]; exact h2, h3⟩
  · obtain ⟨ps, h1, h2, h3⟩ := h.t q hq
    refine ⟨ps, by rw [upd_ne (fun z => nh (.inr ⟨q, hq, z.symm⟩))]; exact h1, h2, fun pos cv hc => ?_⟩
    obtain ⟨x, e1, e2⟩ := h3 pos cv hc
    refine ⟨x, e1, ?_⟩
    rw [upd_ne fun z => ?_]
    · exact e2
    · rw [z, hp] at e2
      exact nc _ _ (Option.some.inj e2)
/-- a new object, not in P -/
theorem Grow.upd (j : J c hd P H) {p : Addr} {o : HO} (hp : H p = none) : Grow c hd P H hd P (upd H p o) := by
  have ne : ∀ a o', H a = some o' → a ≠ p := fun a o' h z => by rw [z, hp] at h; cases h
  have nh : ¬ hdA hd p := j.hand.no hp (fun _ z => by cases z) fun _ z => by cases z
  refine ⟨fun _ h => h, fun _ h => .inl h, fun a o' h _ => by rw [upd_ne (ne a o' h)]; exact h, .inl rfl, fun a h => ?_, ?_, j.hnp⟩
  · cases e : H a with
    | none => exact absurd e (j.ptr a h)
    | some o' => rw [upd_ne (ne a o' e), e]; exact Option.some_ne_none o'
  · exact j.hand.imp fun a o h => by rw [upd_ne (ne _ _ h)]; exact h
/-- an object that is not the hand's comes into P -/
def Pd.add (P : Pd) (p : Addr) : Pd := fun a => P a ∨ a = p
theorem J.add (j : J c hd P H) {p : Addr} {o : HO} (hp : H p = some o) (nh : ¬ hdA hd p) : J c hd (P.add p) H :=
  ⟨fun a h => by
    rcases h with h | h
    · exact j.ptr a h
    · rw [h, hp]; exact Option.some_ne_none o, j.hand, fun a m h => by
    rcases h with h | h
    · exact j.hnp a m h
    · rw [h] at m; exact nh m⟩
theorem Grow.add (j : J c hd P H) (g : Grow c hd P H hd' P' H') {p : Addr} {o : HO} (hp : H p = none) (hq : H' p = some o) (nh : ¬ hdA hd' p) : Grow c hd P H hd' (P'.add p) H' :=
  ⟨fun a h => .inl (g.sub a h), fun a h => by
    rcases h with h | h
    · exact g.new a h
    · rw [h]; exact .inr hp, g.keep, g.hds, g.j.add hq nh⟩
theorem Kept.add {K : PySem.W.Frag} {p : Addr} : Kept K P H (P.add p) H := ⟨fun _ h => .inl h, fun _ _ h _ => h, fun _ _ h => h⟩
end
end DL

namespace DL
open PySem PySem.Spec PyProof.Rows L2

/-- what a name of the program may stand for: data, the hand that draws, the script -/
inductive RV where
  | d (x : D) | hand | scr (ns : List Int) | fn (x : Str) | raw (u : V) | lk (t : Bool) (kvs : List (D × D))
/-- a value that an expression gave: plain; a look at an own list, dict; a new list, dict -/
inductive TV where
  | pl (r : RV) | lv (ds : List D) | dv (kvs : List (D × D)) | fr (ds : List D) | fd (kvs : List (D × D))
/-- what a slot holds -/
inductive Sl where
  | non | pl (r : RV) | ol (ds : List D) | od (kvs : List (D × D))
abbrev Gam := List Sl
def Sl.own : Sl → Bool
  | .ol _ => true
  | .od _ => true
  | _ => false
def TV.data : TV → Option D
  | .pl (.d x) => some x
  | .pl _ => none
  | .lv ds => some (.list ds)
  | .fr ds => some (.list ds)
  | .dv kvs => some (.dict kvs)
  | .fd kvs => some (.dict kvs)

/-- the dict at p holds kvs -/
def DcAt (K : PySem.W.Frag) (P : Pd) (H : Hp) (p : Addr) (kvs : List (D × D)) : Prop :=
  (∃ l : List (Key × V), H p = some (.dK l) ∧ kvs.map (·.1) = l.map (fun q => keyD q.1) ∧ Reps K P H (l.map (·.2)) (kvs.map (·.2))) ∨
  (∃ l : List (List Key × V), H p = some (.dT l) ∧ kvs.map (·.1) = l.map (fun q => keyTD q.1) ∧ Reps K P H (l.map (·.2)) (kvs.map (·.2)))
/-- the dict at p is locked, and holds kvs -/
def LkAt (K : PySem.W.Frag) (P : Pd) (H : Hp) (p : Addr) : Bool → List (D × D) → Prop
  | false, kvs => ∃ (o : Obj) (l : List (Key × V)), H p = some (.frz o (.dK l)) ∧ kvs.map (·.1) = l.map (fun q => keyD q.1) ∧ Reps K P H (l.map (·.2)) (kvs.map (·.2))
  | true, kvs => ∃ (o : Obj) (l : List (List Key × V)), H p = some (.frz o (.dT l)) ∧ kvs.map (·.1) = l.map (fun q => keyTD q.1) ∧ Reps K P H (l.map (·.2)) (kvs.map (·.2))
def RepV (c : Cfg) (hd : Hd) (P : Pd) (H : Hp) (v : V) : RV → Prop
  | .d x => Rep c.K P H v x
  | .hand => ∃ p, hd.h = some p ∧ v = .ref p.1
  | .fn x => v = .ref (He.ga c.K x)
  | .raw u => v = u
  | .scr ns => ∃ a o, v = .ref a ∧ H a = some (.frz o (.lst (ns.map V.int)))
  | .lk t kvs => ∃ p, v = .ref p ∧ P p ∧ LkAt c.K P H p t kvs
def Res (c : Cfg) (hd : Hd) (P : Pd) (H0 H : Hp) (v : V) : TV → Prop
  | .pl r => RepV c hd P H v r
  | .lv ds => ∃ p vs, v = .ref p ∧ ¬ hdA hd p ∧ H p = some (.lst vs) ∧ Reps c.K P H vs ds
  | .dv kvs => ∃ p, v = .ref p ∧ ¬ hdA hd p ∧ DcAt c.K P H p kvs
  | .fr ds => ∃ p vs, v = .ref p ∧ ¬ hdA hd p ∧ H p = some (.lst vs) ∧ Reps c.K P H vs ds ∧ H0 p = none ∧ ¬ P p
  | .fd kvs => ∃ p, v = .ref p ∧ ¬ hdA hd p ∧ DcAt c.K P H p kvs ∧ H0 p = none ∧ ¬ P p
structure Sta (c : Cfg) (γ : Gam) (σ : L2.St) (hd : Hd) (P : Pd) (H : Hp) : Prop where
  len : γ.length = σ.length
  pl : ∀ (i : Nat) r, γ[i]? = some (.pl r) → ∃ v, σ[i]? = some (some v) ∧ RepV c hd P H v r
  ol : ∀ (i : Nat) ds, γ[i]? = some (.ol ds) → ∃ p vs, σ[i]? = some (some (.ref p)) ∧ ¬ hdA hd p ∧ H p = some (.lst vs) ∧ Reps c.K P H vs ds ∧ ¬ P p
  od : ∀ (i : Nat) kvs, γ[i]? = some (.od kvs) → ∃ p, σ[i]? = some (some (.ref p)) ∧ ¬ hdA hd p ∧ DcAt c.K P H p kvs ∧ ¬ P p
  dis : ∀ (i k : Nat) s t p, γ[i]? = some s → γ[k]? = some t → s.own = true → t.own = true → σ[i]? = some (some (.ref p)) → σ[k]? = some (some (.ref p)) → i = k
  j : J c hd P H

section
variable {c : Cfg} {hd hd' hd2 : Hd} {P P' P2 : Pd} {H H' H2 H0 : Hp} {v : V}
theorem DcAt.kept {K : PySem.W.Frag} {p : Addr} {kvs : List (D × D)} (k : Kept K P H P' H') (h : DcAt K P H p kvs) (hp : ∀ o, H p = some o → H' p = some o) : DcAt K P' H' p kvs := by
  rcases h with ⟨l, h1, h2, h3⟩ | ⟨l, h1, h2, h3⟩
  · exact .inl ⟨l, hp _ h1, h2, Reps.kept k h3⟩
  · exact .inr ⟨l, hp _ h1, h2, Reps.kept k h3⟩
theorem DcAt.there {K : PySem.W.Frag} {p : Addr} {kvs : List (D × D)} (h : DcAt K P H p kvs) : ∃ o, H p = some o ∧ ∀ vs, o ≠ .lst vs := by
  rcases h with ⟨l, h1, _⟩ | ⟨l, h1, _⟩
  · exact ⟨_, h1, fun vs z => by cases z⟩
  · exact ⟨_, h1, fun vs z => by cases z⟩
theorem DcAt.nc {K : PySem.W.Frag} {p : Addr} {kvs : List (D × D)} {o : HO} (h : DcAt K P H p kvs) (e : H p = some o) : NC o := by
  rcases h with ⟨l, h1, _⟩ | ⟨l, h1, _⟩
  · rw [e] at h1; cases h1; exact nc_dK
  · rw [e] at h1; cases h1; exact nc_dT
theorem DcAt.rep {K : PySem.W.Frag} {p : Addr} {kvs : List (D × D)} (h : DcAt K P H p kvs) (hp : P p) : Rep K P H (.ref p) (.dict kvs) := by
  have e : kvs = (kvs.map (·.1)).zip (kvs.map (·.2)) := by
    induction kvs with
    | nil => rfl
    | cons q r ih =>
      have hz : ∀ l : List (D × D), l = (l.map (·.1)).zip (l.map (·.2)) := fun l => by
        induction l with
        | nil => rfl
        | cons a b ih => rw [List.map_cons, List.map_cons, List.zip_cons_cons, ← ih]
      exact hz _
  rcases h with ⟨l, h1, h2, h3⟩ | ⟨l, h1, h2, h3⟩
  · rw [e, h2]; exact .dK h1 hp h3
  · rw [e, h2]; exact .dT h1 hp h3
theorem Rep.dc {K : PySem.W.Frag} {kvs : List (D × D)} (h : Rep K P H v (.dict kvs)) : ∃ p, v = .ref p ∧ P p ∧ DcAt K P H p kvs := by
  cases h with
  | @dK a l ds h1 h2 h3 =>
    have el : (l.map fun q => keyD q.1).length = ds.length := by rw [List.length_map, ← h3.length, List.length_map]
    exact ⟨_, rfl, h2, .inl ⟨_, h1, by rw [List.map_fst_zip (Nat.le_of_eq el)], by rw [List.map_snd_zip (Nat.le_of_eq el.symm)]; exact h3⟩⟩
  | @dT a l ds h1 h2 h3 =>
    have el : (l.map fun q => keyTD q.1).length = ds.length := by rw [List.length_map, ← h3.length, List.length_map]
    exact ⟨_, rfl, h2, .inr ⟨_, h1, by rw [List.map_fst_zip (Nat.le_of_eq el)], by rw [List.map_snd_zip (Nat.le_of_eq el.symm)]; exact h3⟩⟩
theorem LkAt.kept {K : PySem.W.Frag} {p : Addr} {t : Bool} {kvs : List (D × D)} (k : Kept K P H P' H') (hp : P p) (h : LkAt K P H p t kvs) : LkAt K P' H' p t kvs := by
  cases t with
  | false =>
    obtain ⟨o, l, h1, h2, h3⟩ := h
    exact ⟨o, l, k.at_ _ _ h1 hp, h2, Reps.kept k h3⟩
  | true =>
    obtain ⟨o, l, h1, h2, h3⟩ := h
    exact ⟨o, l, k.at_ _ _ h1 hp, h2, Reps.kept k h3⟩
theorem RepV.grow (j : J c hd P H) (g : Grow c hd P H hd' P' H') {r : RV} (h : RepV c hd P H v r) : RepV c hd' P' H' v r := by
  cases r with
  | d x => exact Rep.kept (g.kept j) h
  | hand =>
    obtain ⟨p, e, h⟩ := h
    rcases g.hds with q | ⟨q, _⟩
    · exact ⟨p, by rw [q]; exact e, h⟩
    · rw [q] at e; cases e
  | scr ns =>
    obtain ⟨a, o, e, h⟩ := h
    exact ⟨a, o, e, g.keep _ _ h (j.hand.no h (fun _ z => by cases z) fun _ z => by cases z)⟩
  | fn x => exact h
  | raw u => exact h
  | lk t kvs =>
    obtain ⟨p, e, hp, h⟩ := h
    exact ⟨p, e, g.sub p hp, h.kept (g.kept j) hp⟩
theorem nhd (g : Grow c hd P H hd' P' H') {p : Addr} {o : HO} (h : H p = some o) (n : ¬ hdA hd p) : ¬ hdA hd' p := by
  rcases g.hds with q | ⟨q, f⟩
  · rw [q]; exact n
  · intro m
    rw [f p m] at h; cases h
theorem nnp (g : Grow c hd P H hd' P' H') {p : Addr} {o : HO} (h : H p = some o) (n : ¬ P p) : ¬ P' p := by
  intro m
  rcases g.new p m with q | q
  · exact n q
  · rw [h] at q; cases q
theorem Res.grow (j : J c hd P H) (g : Grow c hd P H hd' P' H') {t : TV} (h : Res c hd P H0 H v t) : Res c hd' P' H0 H' v t := by
  cases t with
  | pl r => exact RepV.grow j g h
  | lv ds =>
    obtain ⟨p, vs, e, n, h, r⟩ := h
    exact ⟨p, vs, e, nhd g h n, g.keep _ _ h n, Reps.kept (g.kept j) r⟩
  | dv kvs =>
    obtain ⟨p, e, n, h⟩ := h
    obtain ⟨o, ho, _⟩ := h.there
    exact ⟨p, e, nhd g ho n, h.kept (g.kept j) fun o' h' => g.keep _ _ h' n⟩
  | fr ds =>
    obtain ⟨p, vs, e, n, h, r, f, np⟩ := h
    exact ⟨p, vs, e, nhd g h n, g.keep _ _ h n, Reps.kept (g.kept j) r, f, nnp g h np⟩
  | fd kvs =>
    obtain ⟨p, e, n, h, f, np⟩ := h
    obtain ⟨o, ho, _⟩ := h.there
    exact ⟨p, e, nhd g ho n, h.kept (g.kept j) (fun o' h' => g.keep _ _ h' n), f, nnp g ho np⟩
theorem Res.start (hh : ∀ a, H2 a = none → H0 a = none) {t : TV} (h : Res c hd P H2 H v t) : Res c hd P H0 H v t := by
  cases t with
  | pl r => exact h
  | lv ds => exact h
  | dv kvs => exact h
  | fr ds =>
    obtain ⟨p, vs, e, n, h, r, f, np⟩ := h
    exact ⟨p, vs, e, n, h, r, hh _ f, np⟩
  | fd kvs =>
    obtain ⟨p, e, n, h, f, np⟩ := h
    exact ⟨p, e, n, h, hh _ f, np⟩
/-- the data that stands there now -/
theorem Res.int {t : TV} {i : Int} (h : Res c hd P H0 H v t) (e : t.data = some (.int i)) : v = .int i := by
  cases t with
  | pl r => cases r with
    | d x => cases e; cases h; rfl
    | _ => cases e
  | _ => cases e
theorem Res.str {t : TV} {i : Str} (h : Res c hd P H0 H v t) (e : t.data = some (.str i)) : v = .str i := by
  cases t with
  | pl r => cases r with
    | d x => cases e; cases h; rfl
    | _ => cases e
  | _ => cases e
theorem Res.bl {t : TV} {i : Bool} (h : Res c hd P H0 H v t) (e : t.data = some (.bool i)) : v = .bl i := by
  cases t with
  | pl r => cases r with
    | d x => cases e; cases h; rfl
    | _ => cases e
  | _ => cases e
theorem Res.non {t : TV} (h : Res c hd P H0 H v t) (e : t.data = some .none) : v = .non := by
  cases t with
  | pl r => cases r with
    | d x => cases e; cases h; rfl
    | _ => cases e
  | _ => cases e
theorem Res.lst {t : TV} {ds : List D} (h : Res c hd P H0 H v t) (e : t.data = some (.list ds)) : ∃ p vs, v = .ref p ∧ H p = some (.lst vs) ∧ Reps c.K P H vs ds := by
  cases t with
  | pl r => cases r with
    | d x => cases e; cases h with | lst h1 h2 h3 => exact ⟨_, _, rfl, h1, h3⟩
    | _ => cases e
  | lv ds => cases e; obtain ⟨p, vs, h1, _, h2, h3⟩ := h; exact ⟨p, vs, h1, h2, h3⟩
  | fr ds => cases e; obtain ⟨p, vs, h1, _, h2, h3, _⟩ := h; exact ⟨p, vs, h1, h2, h3⟩
  | dv kvs => cases e
  | fd kvs => cases e
theorem Res.tup {t : TV} {ds : List D} (h : Res c hd P H0 H v t) (e : t.data = some (.tuple ds)) : ∃ p vs, v = .ref p ∧ H p = some (.tup vs) ∧ Reps c.K P H vs ds := by
  cases t with
  | pl r => cases r with
    | d x => cases e; cases h with | tup h1 h2 => exact ⟨_, _, rfl, h1, h2⟩
    | _ => cases e
  | _ => cases e
theorem Res.dct {t : TV} {kvs : List (D × D)} (h : Res c hd P H0 H v t) (e : t.data = some (.dict kvs)) : ∃ p, v = .ref p ∧ DcAt c.K P H p kvs := by
  cases t with
  | pl r => cases r with
    | d x => cases e; obtain ⟨p, h1, _, h2⟩ := Rep.dc h; exact ⟨p, h1, h2⟩
    | _ => cases e
  | dv kvs => cases e; obtain ⟨p, h1, _, h2⟩ := h; exact ⟨p, h1, h2⟩
  | fd kvs => cases e; obtain ⟨p, h1, _, h2, _⟩ := h; exact ⟨p, h1, h2⟩
  | lv ds => cases e
  | fr ds => cases e
abbrev TrueP : Pd := fun _ => True
theorem Kept.any {K : PySem.W.Frag} : Kept K P H TrueP H := ⟨fun _ _ => trivial, fun _ _ h _ => h, fun _ _ h => h⟩
theorem Res.rep {t : TV} {x : D} (h : Res c hd P H0 H v t) (e : t.data = some x) : Rep c.K TrueP H v x := by
  cases t with
  | pl r => cases r with
    | d y => cases e; exact Rep.kept Kept.any h
    | _ => cases e
  | lv ds => cases e; obtain ⟨p, vs, h1, _, h2, h3⟩ := h; subst h1; exact .lst h2 trivial (Reps.kept Kept.any h3)
  | fr ds => cases e; obtain ⟨p, vs, h1, _, h2, h3, _⟩ := h; subst h1; exact .lst h2 trivial (Reps.kept Kept.any h3)
  | dv kvs => cases e; obtain ⟨p, h1, _, h2⟩ := h; subst h1; exact DcAt.rep (h2.kept Kept.any fun _ z => z) trivial
  | fd kvs => cases e; obtain ⟨p, h1, _, h2, _⟩ := h; subst h1; exact DcAt.rep (h2.kept Kept.any fun _ z => z) trivial
theorem Sta.grow {γ : Gam} {σ : L2.St} (s : Sta c γ σ hd P H) (g : Grow c hd P H hd' P' H') : Sta c γ σ hd' P' H' where
  len := s.len
  pl := fun i r e => by
    obtain ⟨v, h1, h2⟩ := s.pl i r e
    exact ⟨v, h1, RepV.grow s.j g h2⟩
  ol := fun i ds e => by
    obtain ⟨p, vs, h1, n, h2, h3, np⟩ := s.ol i ds e
    exact ⟨p, vs, h1, nhd g h2 n, g.keep _ _ h2 n, Reps.kept (g.kept s.j) h3, nnp g h2 np⟩
  od := fun i kvs e => by
    obtain ⟨p, h1, n, h2, np⟩ := s.od i kvs e
    obtain ⟨o, ho, _⟩ := h2.there
    exact ⟨p, h1, nhd g ho n, h2.kept (g.kept s.j) (fun o' h' => g.keep _ _ h' n), nnp g ho np⟩
  dis := s.dis
  j := g.j
end

/-! ### the judgements -/
abbrev FE := Gam → (TV → Prop) → Prop
abbrev FT := Gam → (Bool → Prop) → Prop
abbrev FA := Gam → (List TV → Prop) → Prop
def tD (c : Cfg) (f : FE) : TE := fun σ H Q => ∃ γ hd P Q0, Sta c γ σ hd P H ∧ f γ Q0 ∧ ∀ t, Q0 t → ∀ v hd' P' H', Grow c hd P H hd' P' H' → Res c hd' P' H H' v t → Q v H'
def tDT (c : Cfg) (f : FT) : TT := fun σ H Q => ∃ γ hd P Q0, Sta c γ σ hd P H ∧ f γ Q0 ∧ ∀ b, Q0 b → ∀ hd' P' H', Grow c hd P H hd' P' H' → Q b H'
inductive Ress (c : Cfg) (hd : Hd) (P : Pd) (H0 H : Hp) : List V → List TV → Prop
  | nil : Ress c hd P H0 H [] []
  | cons {v : V} {vs : List V} {t : TV} {ts : List TV} : Res c hd P H0 H v t → Ress c hd P H0 H vs ts → Ress c hd P H0 H (v :: vs) (t :: ts)
def tDA (c : Cfg) (f : FA) : TA := fun σ H Q => ∃ γ hd P Q0, Sta c γ σ hd P H ∧ f γ Q0 ∧ ∀ ts, Q0 ts → ∀ vs hd' P' H', Grow c hd P H hd' P' H' → Ress c hd' P' H H' vs ts → Q vs H'
abbrev DE (hv : Hv) (X : Cx) (e : Expr) (f : FE) : Prop := PE X e (tD ⟨X.K, hv⟩ f)
abbrev DT (hv : Hv) (X : Cx) (e : Expr) (f : FT) : Prop := PT X e (tDT ⟨X.K, hv⟩ f)
abbrev DW (hv : Hv) (X : Cx) (e : Expr) (f : FT) : Prop := PW X e (tDT ⟨X.K, hv⟩ f)
abbrev DA (hv : Hv) (X : Cx) (es : List Expr) (f : FA) : Prop := PA X es (tDA ⟨X.K, hv⟩ f)
section
variable {X : Cx}
theorem pe_imp {e : Expr} {t t' : TE} (h : PE X e t) (k : ∀ σ H Q, t' σ H Q → t σ H Q) : PE X e t' := ⟨fun pins s σ H Q I w => h.run pins s σ H Q I (k σ H Q w)⟩
theorem pt_imp {e : Expr} {t t' : TT} (h : PT X e t) (k : ∀ σ H Q, t' σ H Q → t σ H Q) : PT X e t' := ⟨fun pins s σ H Q I w => h.run pins s σ H Q I (k σ H Q w)⟩
theorem pw_imp {e : Expr} {t t' : TT} (h : PW X e t) (k : ∀ σ H Q, t' σ H Q → t σ H Q) : PW X e t' := ⟨fun wh pins s σ H Q I w => h.run wh pins s σ H Q I (k σ H Q w)⟩
theorem pa_imp {es : List Expr} {t t' : TA} (h : PA X es t) (k : ∀ σ H Q, t' σ H Q → t σ H Q) : PA X es t' := ⟨fun pos pins s σ H Q I w => h.run pos pins s σ H Q I (k σ H Q w)⟩
theorem ps_imp {st : Stmt} {t t' : TS} (h : PS X st t) (k : ∀ D σ H, t' D σ H → t D σ H) : PS X st t' := ⟨fun pins s σ H D I w => h.run pins s σ H D I (k D σ H w)⟩
theorem pss_imp {st : List Stmt} {t t' : TS} (h : PSs X st t) (k : ∀ D σ H, t' D σ H → t D σ H) : PSs X st t' := ⟨fun pins s σ H D I w => h.run pins s σ H D I (k D σ H w)⟩
end
theorem Ress.grow {c : Cfg} {hd hd' : Hd} {P P' : Pd} {H H' H0 : Hp} (j : J c hd P H) (g : Grow c hd P H hd' P' H') : ∀ {vs : List V} {ts : List TV}, Ress c hd P H0 H vs ts → Ress c hd' P' H0 H' vs ts
  | _, _, .nil => .nil
  | _, _, .cons r rs => .cons (r.grow j g) (Ress.grow j g rs)
theorem Ress.start {c : Cfg} {hd : Hd} {P : Pd} {H H2 H0 : Hp} (hh : ∀ a, H2 a = none → H0 a = none) : ∀ {vs : List V} {ts : List TV}, Ress c hd P H2 H vs ts → Ress c hd P H0 H vs ts
  | _, _, .nil => .nil
  | _, _, .cons r rs => .cons (r.start hh) (Ress.start hh rs)

def onS {α : Type} (o : Option α) (Q : α → Prop) : Prop := match o with
  | some a => Q a
  | none => False
theorem onS_some {α : Type} (a : α) (Q : α → Prop) : onS (some a) Q = Q a := rfl
theorem onS_none {α : Type} (Q : α → Prop) : onS (none : Option α) Q = False := rfl
theorem of_onS {α : Type} {o : Option α} {Q : α → Prop} (h : onS o Q) : ∃ a, o = some a ∧ Q a := by
  cases o with
  | none => exact h.elim
  | some a => exact ⟨a, rfl, h⟩

/-! ### names, constants -/
def seen : Sl → Option TV
  | .non => none
  | .pl r => some (.pl r)
  | .ol ds => some (.lv ds)
  | .od kvs => some (.dv kvs)
def dVar (i : Nat) : FE := fun γ Q => onS ((γ[i]?).bind seen) Q
def dCon (x : D) : FE := fun _ Q => Q (.pl (.d x))
section
variable {X : Cx} {hv : Hv} {pos : Pos}
theorem de_pv {e : Expr} {i : Nat} (h : PE X e (tVar i)) : DE hv X e (dVar i) := by
  refine pe_imp h fun σ H Q ⟨γ, hd, P, Q0, S, f, k⟩ => ?_
  obtain ⟨t, et, q⟩ := of_onS f
  cases es : γ[i]? with
  | none => rw [es] at et; cases et
  | some sl =>
    rw [es] at et
    cases sl with
    | non => cases et
    | pl r =>
      cases et
      obtain ⟨v, h1, h2⟩ := S.pl i r es
      exact ⟨v, h1, k _ q v hd P H S.j.refl h2⟩
    | ol ds =>
      cases et
      obtain ⟨p, vs, h1, n, h2, h3, _⟩ := S.ol i ds es
      exact ⟨_, h1, k _ q _ hd P H S.j.refl ⟨p, vs, rfl, n, h2, h3⟩⟩
    | od kvs =>
      cases et
      obtain ⟨p, h1, n, h2, _⟩ := S.od i kvs es
      exact ⟨_, h1, k _ q _ hd P H S.j.refl ⟨p, rfl, n, h2⟩⟩
theorem de_con {e : Expr} {v : V} {x : D} (h : PE X e (tC v)) (r : ∀ P H, Rep X.K P H v x) : DE hv X e (dCon x) := by
  refine pe_imp h fun σ H Q ⟨γ, hd, P, Q0, S, f, k⟩ => ?_
  exact k _ f v hd P H S.j.refl (r P H)
theorem de_int {i : Int} {k : Nat} : DE hv X (.Constant (.int i) k pos) (dCon (.int i)) := de_con pe_int fun _ _ => .int i
theorem de_bl {b : Bool} {k : Nat} : DE hv X (.Constant (.bool b) k pos) (dCon (.bool b)) := de_con pe_bl fun _ _ => .bl b
theorem de_non {k : Nat} : DE hv X (.Constant .none k pos) (dCon .none) := de_con pe_non fun _ _ => .non
theorem de_str {x : Str} {k : Nat} : DE hv X (.Constant (.str x) k pos) (dCon (.str x)) := de_con pe_str fun _ _ => .str x
end
end DL

namespace DL
open PySem PySem.Spec PyProof.Rows L2

/-! ### values made plain -/
def TV.rv : TV → Option RV
  | .pl r => some r
  | .fr ds => some (.d (.list ds))
  | .fd kvs => some (.d (.dict kvs))
  | _ => none
def TV.plain : TV → Option D
  | .pl (.d x) => some x
  | .fr ds => some (.list ds)
  | .fd kvs => some (.dict kvs)
  | _ => none
def rvs : List TV → Option (List RV)
  | [] => some []
  | t :: ts => t.rv.bind fun r => (rvs ts).map fun rs => r :: rs
def plains : List TV → Option (List D)
  | [] => some []
  | t :: ts => t.plain.bind fun r => (plains ts).map fun rs => r :: rs
inductive RepVs (c : Cfg) (hd : Hd) (P : Pd) (H : Hp) : List V → List RV → Prop
  | nil : RepVs c hd P H [] []
  | cons {v : V} {vs : List V} {r : RV} {rs : List RV} : RepV c hd P H v r → RepVs c hd P H vs rs → RepVs c hd P H (v :: vs) (r :: rs)
section
variable {c : Cfg} {hd hd' hd2 : Hd} {P P' P1 P2 : Pd} {H H' H1 H2 H0 : Hp} {v : V}
theorem RepV.kept (k : Kept c.K P H P' H') (hf : ∀ a o u, H a = some (.frz o u) → H' a = some (.frz o u)) {r : RV} (h : RepV c hd P H v r) : RepV c hd P' H' v r := by
  cases r with
  | d x => exact Rep.kept k h
  | hand => exact h
  | scr ns =>
    obtain ⟨a, o, e, h⟩ := h
    exact ⟨a, o, e, hf _ _ _ h⟩
  | fn x => exact h
  | raw u => exact h
  | lk t kvs =>
    obtain ⟨p, e, hp, h⟩ := h
    exact ⟨p, e, k.sub p hp, h.kept k hp⟩
theorem RepVs.kept (k : Kept c.K P H P' H') (hf : ∀ a o u, H a = some (.frz o u) → H' a = some (.frz o u)) : ∀ {vs : List V} {rs : List RV}, RepVs c hd P H vs rs → RepVs c hd P' H' vs rs
  | _, _, .nil => .nil
  | _, _, .cons r t => .cons (r.kept k hf) (RepVs.kept k hf t)
theorem RepVs.length : ∀ {vs : List V} {rs : List RV}, RepVs c hd P H vs rs → vs.length = rs.length
  | _, _, .nil => rfl
  | _, _, .cons _ t => by rw [List.length_cons, List.length_cons, RepVs.length t]
/-- P may take in more: objects that are new -/
structure More (c : Cfg) (hd : Hd) (P : Pd) (H0 H : Hp) (P1 : Pd) : Prop where
  sub : ∀ a, P a → P1 a
  new : ∀ a, P1 a → P a ∨ H0 a = none
  j : J c hd P1 H
theorem More.refl (j : J c hd P H) : More c hd P H0 H P := ⟨fun _ h => h, fun _ h => .inl h, j⟩
theorem More.trans (a : More c hd P H0 H P1) (b : More c hd P1 H0 H P2) : More c hd P H0 H P2 :=
  ⟨fun x h => b.sub x (a.sub x h), fun x h => (b.new x h).elim (a.new x) .inr, b.j⟩
theorem More.kept {K : PySem.W.Frag} (m : More c hd P H0 H P1) : Kept K P H P1 H := ⟨m.sub, fun _ _ h _ => h, fun _ _ h => h⟩
theorem Grow.more (g : Grow c hd P H hd' P' H') (m : More c hd' P' H H' P1) : Grow c hd P H hd' P1 H' :=
  ⟨fun a h => m.sub a (g.sub a h), fun a h => (m.new a h).elim (g.new a) .inr, g.keep, g.hds, m.j⟩
theorem J.fresh (j : J c hd P H) {p : Addr} (h : H p = none) : ¬ P p ∧ ¬ hdA hd p :=
  ⟨fun m => j.ptr p m h, j.hand.no h (fun _ z => by cases z) fun _ z => by cases z⟩
theorem Res.toRV (j : J c hd P H) {t : TV} {r : RV} (h : Res c hd P H0 H v t) (e : t.rv = some r) : ∃ P1, More c hd P H0 H P1 ∧ RepV c hd P1 H v r := by
  cases t with
  | pl r' => cases e; exact ⟨P, .refl j, h⟩
  | lv ds => cases e
  | dv kvs => cases e
  | fr ds =>
    cases e
    obtain ⟨p, vs, rfl, n, h1, h2, h3, h4⟩ := h
    have m : More c hd P H0 H (P.add p) := ⟨fun _ h => .inl h, fun a h => h.elim .inl fun z => .inr (by rw [z]; exact h3), j.add h1 n⟩
    exact ⟨_, m, .lst h1 (.inr rfl) (Reps.kept m.kept h2)⟩
  | fd kvs =>
    cases e
    obtain ⟨p, rfl, n, h1, h3, h4⟩ := h
    obtain ⟨o, ho, _⟩ := h1.there
    have m : More c hd P H0 H (P.add p) := ⟨fun _ h => .inl h, fun a h => h.elim .inl fun z => .inr (by rw [z]; exact h3), j.add ho n⟩
    exact ⟨_, m, DcAt.rep (h1.kept m.kept fun _ z => z) (.inr rfl)⟩
theorem plain_rv {t : TV} {x : D} (e : t.plain = some x) : t.rv = some (.d x) := by
  cases t with
  | pl r => cases r with
    | d y => cases e; rfl
    | _ => cases e
  | fr ds => cases e; rfl
  | fd kvs => cases e; rfl
  | lv ds => cases e
  | dv kvs => cases e
theorem Res.plain (j : J c hd P H) {t : TV} {x : D} (h : Res c hd P H0 H v t) (e : t.plain = some x) : ∃ P1, More c hd P H0 H P1 ∧ Rep c.K P1 H v x := Res.toRV j h (plain_rv e)
theorem Ress.toRVs (j : J c hd P H) : ∀ {vs : List V} {ts : List TV} {rs : List RV}, Ress c hd P H0 H vs ts → rvs ts = some rs → ∃ P1, More c hd P H0 H P1 ∧ RepVs c hd P1 H vs rs
  | _, _, rs, .nil, e => by cases e; exact ⟨P, .refl j, .nil⟩
  | _, _, rs, .cons (t := t) (ts := ts) r t', e => by
    rw [rvs] at e
    cases e1 : t.rv with
    | none => rw [e1] at e; cases e
    | some r1 =>
      cases e2 : rvs ts with
      | none => rw [e1, e2] at e; cases e
      | some rs2 =>
        rw [e1, e2] at e
        cases e
        obtain ⟨P2, m2, q2⟩ := Ress.toRVs j t' e2
        obtain ⟨P1, m1, q1⟩ := Res.toRV j r e1
        have j3 : J c hd (fun a => P1 a ∨ P2 a) H := ⟨fun a h => h.elim (m1.j.ptr a) (m2.j.ptr a), j.hand, fun a m h => h.elim (m1.j.hnp a m) (m2.j.hnp a m)⟩
        refine ⟨fun a => P1 a ∨ P2 a, ⟨fun a h => .inl (m1.sub a h), fun a h => h.elim (m1.new a) (m2.new a), j3⟩, .cons ?_ ?_⟩
        · exact RepV.kept ⟨fun _ h => .inl h, fun _ _ h _ => h, fun _ _ h => h⟩ (fun _ _ _ z => z) q1
        · exact RepVs.kept ⟨fun _ h => .inr h, fun _ _ h _ => h, fun _ _ h => h⟩ (fun _ _ _ z => z) q2
theorem RepVs.reps : ∀ {vs : List V} {ds : List D}, RepVs c hd P H vs (ds.map RV.d) → Reps c.K P H vs ds
  | _, [], .nil => .nil
  | _, d :: ds, .cons r t => .cons r (RepVs.reps t)
theorem plains_rvs : ∀ {ts : List TV} {ds : List D}, plains ts = some ds → rvs ts = some (ds.map RV.d)
  | [], ds, e => by cases e; rfl
  | t :: ts, ds, e => by
    rw [plains] at e
    cases e1 : t.plain with
    | none => rw [e1] at e; cases e
    | some r1 =>
      cases e2 : plains ts with
      | none => rw [e1, e2] at e; cases e
      | some rs2 =>
        rw [e1, e2] at e
        cases e
        rw [rvs, plain_rv e1, plains_rvs e2]
        rfl
theorem Ress.plains (j : J c hd P H) {vs : List V} {ts : List TV} {ds : List D} (h : Ress c hd P H0 H vs ts) (e : plains ts = some ds) : ∃ P1, More c hd P H0 H P1 ∧ Reps c.K P1 H vs ds := by
  obtain ⟨P1, m, r⟩ := Ress.toRVs j h (plains_rvs e)
  exact ⟨P1, m, RepVs.reps r⟩
end

/-! ### arguments, displays -/
def dNil : FA := fun _ Q => Q []
def dCons (fa : FE) (fr : FA) : FA := fun γ Q => fa γ fun t => fr γ fun ts => Q (t :: ts)
def dTup (fa : FA) : FE := fun γ Q => fa γ fun ts => onS (plains ts) fun ds => ds.length ≤ sizeLine ∧ Q (.pl (.d (.tuple ds)))
def dLst (fa : FA) : FE := fun γ Q => fa γ fun ts => onS (plains ts) fun ds => ds.length ≤ sizeLine ∧ Q (.fr ds)
section
variable {X : Cx} {hv : Hv} {pos : Pos} {e a b : Expr} {es : List Expr} {fa fb fe : FE} {fr : FA}
theorem da_nil : DA hv X [] dNil := by
  refine pa_imp pa_nil fun σ H Q ⟨γ, hd, P, Q0, S, f, k⟩ => ?_
  exact k _ f [] hd P H S.j.refl .nil
theorem da_cons (ha : DE hv X e fa) (hr : DA hv X es fr) (hs : starEach (e :: es) X.env = (false, eval e X.env) :: starEach es X.env := by rfl) : DA hv X (e :: es) (dCons fa fr) := by
  refine pa_imp (pa_cons ha hr hs) fun σ H Q ⟨γ, hd, P, Q0, S, f, k⟩ => ?_
  refine ⟨γ, hd, P, _, S, f, fun t q v hd1 P1 H1 g1 r1 => ?_⟩
  refine ⟨γ, hd1, P1, _, S.grow g1, q, fun ts q2 vs hd2 P2 H2 g2 r2 => ?_⟩
  exact k _ q2 _ hd2 P2 H2 (g1.trans S.j g2) (.cons (r1.grow g1.j g2) (r2.start fun a h => g1.free S.j h))
theorem de_tup {x1} (h : DA hv X es fr) : DE hv X (.Tuple es x1 pos) (dTup fr) := by
  refine pe_imp (pe_tup h) fun σ H Q ⟨γ, hd, P, Q0, S, f, k⟩ => ?_
  refine ⟨γ, hd, P, _, S, f, fun ts q vs hd1 P1 H1 g1 r1 => ?_⟩
  obtain ⟨ds, e1, hz, q⟩ := of_onS q
  obtain ⟨P2, m, r⟩ := Ress.plains g1.j r1 e1
  refine ⟨by rw [r.length]; exact hz, fun p hp => ?_⟩
  have g2 := Grow.upd m.j (o := .tup vs) hp
  exact k _ q _ hd1 P2 _ ((g1.more m).trans S.j g2) (Rep.tup upd_same (Reps.kept (g2.kept m.j) r))
theorem de_lst (h : DA hv X es fr) : DE hv X (.List es pos) (dLst fr) := by
  refine pe_imp (pe_lst h) fun σ H Q ⟨γ, hd, P, Q0, S, f, k⟩ => ?_
  refine ⟨γ, hd, P, _, S, f, fun ts q vs hd1 P1 H1 g1 r1 => ?_⟩
  obtain ⟨ds, e1, hz, q⟩ := of_onS q
  obtain ⟨P2, m, r⟩ := Ress.plains g1.j r1 e1
  refine ⟨by rw [r.length]; exact hz, fun p hp => ?_⟩
  have g2 := Grow.upd m.j (o := .lst vs) hp
  have np := m.j.fresh hp
  exact k _ q _ hd1 P2 _ ((g1.more m).trans S.j g2) ⟨p, vs, rfl, np.2, upd_same, Reps.kept (g2.kept m.j) r, g1.free S.j hp, np.1⟩
end

/-! ### two values -/
def rD (c : Cfg) (g : TV → TV → Option TV) : R2 := fun x y H Q => ∃ hd P H0 tx ty t, J c hd P H ∧ Res c hd P H0 H x tx ∧ Res c hd P H0 H y ty ∧ g tx ty = some t ∧
  ∀ v P' H', Grow c hd P H hd P' H' → Res c hd P' H H' v t → Q v H'
def dOp (g : TV → TV → Option TV) (fa fb : FE) : FE := fun γ Q => fa γ fun x => fb γ fun y => onS (g x y) Q
abbrev OpD (hv : Hv) (X : Cx) (f : Value → Value → Sem Value) (g : TV → TV → Option TV) : Prop := OpR X f (rD ⟨X.K, hv⟩ g)
section
variable {X : Cx} {hv : Hv} {pos : Pos} {a b : Expr} {fa fb : FE} {g : TV → TV → Option TV}
theorem t_op (σ : L2.St) (H : Hp) (Q : VK) (h : tD ⟨X.K, hv⟩ (dOp g fa fb) σ H Q) : tOp (rD ⟨X.K, hv⟩ g) (tD ⟨X.K, hv⟩ fa) (tD ⟨X.K, hv⟩ fb) σ H Q := by
  obtain ⟨γ, hd, P, Q0, S, f, k⟩ := h
  refine ⟨γ, hd, P, _, S, f, fun tx qx x hd1 P1 H1 g1 r1 => ?_⟩
  refine ⟨γ, hd1, P1, _, S.grow g1, qx, fun ty qy y hd2 P2 H2 g2 r2 => ?_⟩
  obtain ⟨t, e, q⟩ := of_onS qy
  have g12 := g1.trans S.j g2
  refine ⟨hd2, P2, H, tx, ty, t, g2.j, r1.grow g1.j g2, r2.start fun a h => g1.free S.j h, e, fun v P3 H3 g3 r3 => ?_⟩
  exact k t q v hd2 P3 H3 (g12.trans S.j g3) (r3.start fun a h => g12.free S.j h)
theorem de_op {op : Operator} (ho : OpD hv X (binaryOp op) g) (ha : DE hv X a fa) (hb : DE hv X b fb) : DE hv X (.BinOp a op b pos) (dOp g fa fb) := pe_imp (pe_op ho ha hb) t_op
theorem de_cmp {op : CmpOp} (ho : OpD hv X (compareOp op) g) (ha : DE hv X a fa) (hb : DE hv X b fb) (hm : behindInMarks op b = false := by rfl) : DE hv X (.Compare a [op] [b] pos) (dOp g fa fb) := pe_imp (pe_cmpR ho ha hb hm) t_op
end
def bv (b : Bool) : TV := .pl (.d (.bool b))
def iv (i : Int) : TV := .pl (.d (.int i))
def addT (x y : TV) : Option TV := match x.data, y.data with
  | some (.int i), some (.int j) => some (iv (i + j))
  | some (.str a), some (.str b) => if a.length + b.length ≤ sizeLine then some (.pl (.d (.str (a ++ b)))) else none
  | some (.list xs), some (.list ys) => if xs.length + ys.length ≤ sizeLine then some (.fr (xs ++ ys)) else none
  | some (.tuple xs), some (.tuple ys) => if xs.length + ys.length ≤ sizeLine then some (.pl (.d (.tuple (xs ++ ys)))) else none
  | _, _ => none
def subT (x y : TV) : Option TV := match x.data, y.data with
  | some (.int i), some (.int j) => some (iv (i - j))
  | _, _ => none
def mulT (x y : TV) : Option TV := match x.data, y.data with
  | some (.int i), some (.int j) => if (-(2 ^ 64) < i ∧ i < 2 ^ 64) ∨ (-(2 ^ 64) < j ∧ j < 2 ^ 64) then some (iv (i * j)) else none
  | some (.list xs), some (.int k) => if -(2 ^ 63) ≤ k ∧ k < 2 ^ 63 ∧ xs.length * k.toNat ≤ sizeLine then some (.fr (List.replicate k.toNat xs).flatten) else none
  | _, _ => none
def divT (x y : TV) : Option TV := match x.data, y.data with
  | some (.int i), some (.int j) => if j ≠ 0 ∧ j.natAbs < 1073741824 then some (iv (i.fdiv j)) else none
  | _, _ => none
def modT (x y : TV) : Option TV := match x.data, y.data with
  | some (.int i), some (.int j) => if j ≠ 0 then some (iv (i.fmod j)) else none
  | _, _ => none
section
variable {X : Cx} {hv : Hv}
theorem Reps.rep {K : PySem.W.Frag} {P : Pd} {H : Hp} {vs : List V} {ds : List D} (r : Reps K P H vs ds) : ∀ n : Nat, Reps K P H (List.replicate n vs).flatten (List.replicate n ds).flatten
  | 0 => .nil
  | n + 1 => by
    rw [List.replicate_succ, List.replicate_succ, List.flatten_cons, List.flatten_cons]
    exact Reps.app r (Reps.rep r n)
theorem new_lst {c : Cfg} {hd : Hd} {P : Pd} {H : Hp} (j : J c hd P H) {Q : VK} {vs : List V} {ds : List D} (r : Reps c.K P H vs ds)
    (k : ∀ v P' H', Grow c hd P H hd P' H' → Res c hd P' H H' v (.fr ds) → Q v H') : ∀ p, H p = none → Q (.ref p) (upd H p (.lst vs)) := fun p hp => by
  have g2 := Grow.upd j (o := .lst vs) hp
  have np := j.fresh hp
  exact k _ P _ g2 ⟨p, vs, rfl, np.2, upd_same, Reps.kept (g2.kept j) r, hp, np.1⟩
theorem new_tup {c : Cfg} {hd : Hd} {P : Pd} {H : Hp} (j : J c hd P H) {Q : VK} {vs : List V} {ds : List D} (r : Reps c.K P H vs ds)
    (k : ∀ v P' H', Grow c hd P H hd P' H' → Res c hd P' H H' v (.pl (.d (.tuple ds))) → Q v H') : ∀ p, H p = none → Q (.ref p) (upd H p (.tup vs)) := fun p hp => by
  have g2 := Grow.upd j (o := .tup vs) hp
  exact k _ P _ g2 (Rep.tup upd_same (Reps.kept (g2.kept j) r))
theorem od_add : OpD hv X (binaryOp .Add) addT := by
  intro pins s σ H x y v u Q I rx ry ⟨hd, P, H0, tx, ty, t, j, r1, r2, e, k⟩
  unfold addT at e
  split at e
  · rename_i i i' e1 e2
    have h1 := r1.int e1
    have h2 := r2.int e2
    subst h1 h2
    cases e
    exact op_add pins s σ H _ _ v u Q I rx ry ⟨_, _, rfl, rfl, k _ P H j.refl (Rep.int _)⟩
  · rename_i i i' e1 e2
    have h1 := r1.str e1
    have h2 := r2.str e2
    subst h1 h2
    split at e
    · rename_i hz
      cases e
      exact op_add_str pins s σ H _ _ v u Q I rx ry ⟨_, _, rfl, rfl, hz, k _ P H j.refl (Rep.str _)⟩
    · cases e
  · rename_i i i' e1 e2
    obtain ⟨p1, vs1, rfl, h1, q1⟩ := r1.lst e1
    obtain ⟨p2, vs2, rfl, h2, q2⟩ := r2.lst e2
    split at e
    · rename_i hz
      cases e
      exact op_cat pins s σ H _ _ v u Q I rx ry ⟨_, _, _, _, rfl, rfl, h1, h2, by rw [q1.length, q2.length]; exact hz, new_lst j (Reps.app q1 q2) k⟩
    · cases e
  · rename_i i i' e1 e2
    obtain ⟨p1, vs1, rfl, h1, q1⟩ := r1.tup e1
    obtain ⟨p2, vs2, rfl, h2, q2⟩ := r2.tup e2
    split at e
    · rename_i hz
      cases e
      refine op_catA pins s σ H _ _ v u Q I rx ry ⟨_, _, _, _, rfl, rfl, SqT.of h1, SqT.of h2, by rw [q1.length, q2.length]; exact hz, fun z => ?_, fun _ z => ?_, fun _ _ => new_tup j (Reps.app q1 q2) k⟩
      · subst z
        cases q1
        exact k _ P H j.refl (Rep.tup h2 q2)
      · subst z
        cases q2
        exact k _ P H j.refl (by rw [List.append_nil]; exact Rep.tup h1 q1)
    · cases e
  · cases e
theorem od_sub : OpD hv X (binaryOp .Sub) subT := by
  intro pins s σ H x y v u Q I rx ry ⟨hd, P, H0, tx, ty, t, j, r1, r2, e, k⟩
  unfold subT at e
  split at e
  · rename_i i i' e1 e2
    have h1 := r1.int e1
    have h2 := r2.int e2
    subst h1 h2
    cases e
    exact op_sub pins s σ H _ _ v u Q I rx ry ⟨_, _, rfl, rfl, k _ P H j.refl (Rep.int _)⟩
  · cases e
theorem od_mul : OpD hv X (binaryOp .Mult) mulT := by
  intro pins s σ H x y v u Q I rx ry ⟨hd, P, H0, tx, ty, t, j, r1, r2, e, k⟩
  unfold mulT at e
  split at e
  · rename_i i i' e1 e2
    have h1 := r1.int e1
    have h2 := r2.int e2
    subst h1 h2
    split at e
    · rename_i hz
      cases e
      exact op_mul pins s σ H _ _ v u Q I rx ry ⟨_, _, rfl, rfl, hz, k _ P H j.refl (Rep.int _)⟩
    · cases e
  · rename_i i i' e1 e2
    obtain ⟨p1, vs1, rfl, h1, q1⟩ := r1.lst e1
    have h2 := r2.int e2
    subst h2
    split at e
    · rename_i hz
      cases e
      exact op_rep pins s σ H _ _ v u Q I rx ry ⟨_, _, _, rfl, rfl, h1, hz.1, hz.2.1, by rw [q1.length]; exact hz.2.2, new_lst j (Reps.rep q1 _) k⟩
    · cases e
  · cases e
theorem od_div : OpD hv X (binaryOp .FloorDiv) divT := by
  intro pins s σ H x y v u Q I rx ry ⟨hd, P, H0, tx, ty, t, j, r1, r2, e, k⟩
  unfold divT at e
  split at e
  · rename_i i i' e1 e2
    have h1 := r1.int e1
    have h2 := r2.int e2
    subst h1 h2
    split at e
    · rename_i hz
      cases e
      exact op_fdivN pins s σ H _ _ v u Q I rx ry ⟨_, _, rfl, rfl, hz, k _ P H j.refl (Rep.int _)⟩
    · cases e
  · cases e
theorem od_mod : OpD hv X (binaryOp .Mod) modT := by
  intro pins s σ H x y v u Q I rx ry ⟨hd, P, H0, tx, ty, t, j, r1, r2, e, k⟩
  unfold modT at e
  split at e
  · rename_i i i' e1 e2
    have h1 := r1.int e1
    have h2 := r2.int e2
    subst h1 h2
    split at e
    · rename_i hz
      cases e
      exact op_modN pins s σ H _ _ v u Q I rx ry ⟨_, _, rfl, rfl, hz, k _ P H j.refl (Rep.int _)⟩
    · cases e
  · cases e
end
end DL

namespace DL
open PySem PySem.Spec PyProof.Rows L2 PySem.W

/-! ### what the heap holds, for the library's own rules -/
section
variable {X : Cx} {pins : List (Addr × Obj)} {σ : L2.St} {H : Hp} {s : Shared} {P : Pd}
mutual
theorem rep_reads (I : Inv X pins σ H s) : ∀ {v : V} {d : D} {u : Value}, Rep X.K P H v d → d.plain = true → RelV v u → ∃ as, Reads s.heap u d as
  | _, _, _, .non, _, r => by cases r; exact ⟨_, .none⟩
  | _, _, _, .bl b, _, r => by cases r; exact ⟨_, .bool b⟩
  | _, _, _, .int i, _, r => by obtain ⟨t, rfl⟩ := r; exact ⟨_, .int i t⟩
  | _, _, _, .str x, _, r => by obtain ⟨t, rfl⟩ := r; exact ⟨_, .str x t⟩
  | _, _, _, .lst h _ q, p, r => by
    cases r
    obtain ⟨its, rv, ⟨o, n, ho, hc, _, hd⟩, _⟩ := I.list (SqL.of h)
    obtain ⟨as, hr⟩ := reps_reads I q (by simpa [PyData.plain] using p) rv
    exact ⟨_, Reads.list ho hc hd hr⟩
  | _, _, _, .tup h q, p, r => by
    cases r
    obtain ⟨its, rv, ⟨o, ho, hc, n, hd⟩, _⟩ := I.tuple (SqT.of h)
    obtain ⟨as, hr⟩ := reps_reads I q (by simpa [PyData.plain] using p) rv
    exact ⟨_, Reads.tuple ho hc hd hr⟩
  | _, _, _, .dK _ _ _, p, _ => by simp [PyData.plain] at p
  | _, _, _, .dT _ _ _, p, _ => by simp [PyData.plain] at p
theorem reps_reads (I : Inv X pins σ H s) : ∀ {vs : List V} {ds : List D} {us : List Value}, Reps X.K P H vs ds → PyData.plainAll ds = true → Vals vs us → ∃ as, ReadsAll s.heap us ds as
  | _, _, _, .nil, _, r => by cases r; exact ⟨_, .nil⟩
  | _, _, _, .cons q qs, p, r => by
    have p' := (by simpa [PyData.plainAll] using p : PyData.plain _ = true ∧ PyData.plainAll _ = true)
    cases r with
    | cons r1 r2 =>
      obtain ⟨as, h1⟩ := rep_reads I q p'.1 r1
      obtain ⟨bs, h2⟩ := reps_reads I qs p'.2 r2
      exact ⟨_, .cons h1 h2⟩
end
end

/-! ### comparisons -/
def deep : Nat := 60
def okEq (a b : D) : Bool := a.plain && (b.plain && decide (min a.depth b.depth ≤ deep))
def eqT (x y : TV) : Option TV := match x.data, y.data with
  | some a, some b => if okEq a b = true then some (bv (PyData.eqv a b)) else none
  | _, _ => none
def neT (x y : TV) : Option TV := match x.data, y.data with
  | some a, some b => if okEq a b = true then some (bv (!PyData.eqv a b)) else none
  | _, _ => none
def isNon : D → Bool
  | .none => true
  | _ => false
def okLt (a b : D) : Bool := alike a b && (!isNon a && (a.plain && (b.plain && decide (min a.depth b.depth ≤ deep))))
theorem okLt_ok {a b : D} (h : okLt a b = true) : alike a b = true ∧ a ≠ .none ∧ a.plain = true ∧ b.plain = true ∧ min a.depth b.depth ≤ deep := by
  simp only [okLt, Bool.and_eq_true, decide_eq_true_eq, Bool.not_eq_true'] at h
  exact ⟨h.1, (fun z => by rw [z] at h; cases h.2.1), h.2.2⟩
def ltT (f : D → D → Bool) (x y : TV) : Option TV := match x.data, y.data with
  | some a, some b => if okLt a b = true then some (bv (f a b)) else none
  | _, _ => none
abbrev lt_ : D → D → Bool := fun a b => dataLt a b
abbrev gt_ : D → D → Bool := fun a b => dataLt b a
abbrev le_ : D → D → Bool := fun a b => !dataLt b a
abbrev ge_ : D → D → Bool := fun a b => !dataLt a b
section
variable {X : Cx} {hv : Hv}
theorem Room.deep {A : Around} (hu : A.units + 64 < cLine) {n : Nat} (h : n ≤ deep) : A.units + n < cLine := by
  have : n ≤ 60 := h
  omega
theorem od_eq (hu : X.A.units + 64 < cLine) : OpD hv X (compareOp .Eq) eqT := by
  intro pins s σ H x y v u Q I rx ry ⟨hd, P, H0, tx, ty, t, j, r1, r2, e, k⟩
  unfold eqT at e
  split at e
  · rename_i a b e1 e2
    split at e
    · rename_i ho
      cases e
      simp only [okEq, Bool.and_eq_true, decide_eq_true_eq] at ho
      obtain ⟨as, q1⟩ := rep_reads I (r1.rep e1) ho.1 rx
      obtain ⟨bs, q2⟩ := rep_reads I (r2.rep e2) ho.2.1 ry
      exact SeqAt.eq_plain q1 q2 ho.1 ho.2.1 (Room.deep hu ho.2.2) ⟨.bl _, H, I, rfl, k _ P H j.refl (Rep.bl _)⟩
    · cases e
  · cases e
theorem od_ne (hu : X.A.units + 64 < cLine) : OpD hv X (compareOp .NotEq) neT := by
  intro pins s σ H x y v u Q I rx ry ⟨hd, P, H0, tx, ty, t, j, r1, r2, e, k⟩
  unfold neT at e
  split at e
  · rename_i a b e1 e2
    split at e
    · rename_i ho
      cases e
      simp only [okEq, Bool.and_eq_true, decide_eq_true_eq] at ho
      obtain ⟨as, q1⟩ := rep_reads I (r1.rep e1) ho.1 rx
      obtain ⟨bs, q2⟩ := rep_reads I (r2.rep e2) ho.2.1 ry
      exact SeqAt.ne_plain q1 q2 ho.1 ho.2.1 (Room.deep hu ho.2.2) ⟨.bl _, H, I, rfl, k _ P H j.refl (Rep.bl _)⟩
    · cases e
  · cases e
theorem od_lt (hu : X.A.units + 64 < cLine) : OpD hv X (compareOp .Lt) (ltT lt_) := by
  intro pins s σ H x y v u Q I rx ry ⟨hd, P, H0, tx, ty, t, j, r1, r2, e, k⟩
  unfold ltT at e
  split at e
  · rename_i a b e1 e2
    split at e
    · rename_i ho
      cases e
      have ho := okLt_ok ho
      obtain ⟨as, q1⟩ := rep_reads I (r1.rep e1) ho.2.2.1 rx
      obtain ⟨bs, q2⟩ := rep_reads I (r2.rep e2) ho.2.2.2.1 ry
      exact lt_data q1 q2 ho.1 ho.2.1 (Room.deep hu ho.2.2.2.2) ⟨.bl _, H, I, rfl, k _ P H j.refl (Rep.bl _)⟩
    · cases e
  · cases e
theorem od_gt (hu : X.A.units + 64 < cLine) : OpD hv X (compareOp .Gt) (ltT gt_) := by
  intro pins s σ H x y v u Q I rx ry ⟨hd, P, H0, tx, ty, t, j, r1, r2, e, k⟩
  unfold ltT at e
  split at e
  · rename_i a b e1 e2
    split at e
    · rename_i ho
      cases e
      have ho := okLt_ok ho
      obtain ⟨as, q1⟩ := rep_reads I (r1.rep e1) ho.2.2.1 rx
      obtain ⟨bs, q2⟩ := rep_reads I (r2.rep e2) ho.2.2.2.1 ry
      exact gt_data q1 q2 ho.1 ho.2.1 (Room.deep hu ho.2.2.2.2) ⟨.bl _, H, I, rfl, k _ P H j.refl (Rep.bl _)⟩
    · cases e
  · cases e
theorem od_le (hu : X.A.units + 64 < cLine) : OpD hv X (compareOp .LtE) (ltT le_) := by
  intro pins s σ H x y v u Q I rx ry ⟨hd, P, H0, tx, ty, t, j, r1, r2, e, k⟩
  unfold ltT at e
  split at e
  · rename_i a b e1 e2
    split at e
    · rename_i ho
      cases e
      have ho := okLt_ok ho
      obtain ⟨as, q1⟩ := rep_reads I (r1.rep e1) ho.2.2.1 rx
      obtain ⟨bs, q2⟩ := rep_reads I (r2.rep e2) ho.2.2.2.1 ry
      exact le_data q1 q2 ho.1 ho.2.1 (Room.deep hu ho.2.2.2.2) ⟨.bl _, H, I, rfl, k _ P H j.refl (Rep.bl _)⟩
    · cases e
  · cases e
theorem od_ge (hu : X.A.units + 64 < cLine) : OpD hv X (compareOp .GtE) (ltT ge_) := by
  intro pins s σ H x y v u Q I rx ry ⟨hd, P, H0, tx, ty, t, j, r1, r2, e, k⟩
  unfold ltT at e
  split at e
  · rename_i a b e1 e2
    split at e
    · rename_i ho
      cases e
      have ho := okLt_ok ho
      obtain ⟨as, q1⟩ := rep_reads I (r1.rep e1) ho.2.2.1 rx
      obtain ⟨bs, q2⟩ := rep_reads I (r2.rep e2) ho.2.2.2.1 ry
      exact ge_data q1 q2 ho.1 ho.2.1 (Room.deep hu ho.2.2.2.2) ⟨.bl _, H, I, rfl, k _ P H j.refl (Rep.bl _)⟩
    · cases e
  · cases e
end

/-! in, not in -/
def okIn (d : D) (xs : List D) : Bool := PyData.plainAll xs && (d.plain && decide (min (PyData.depthAll xs) d.depth ≤ deep))
/-- a key of a dict, if this data is one -/
def asKey : D → Option Key
  | .int i => some (.inl i)
  | .str x => some (.inr x)
  | _ => none
def asKeys : List D → Option (List Key)
  | [] => some []
  | d :: ds => (asKey d).bind fun k => (asKeys ds).map fun ks => k :: ks
def keyOk : D → Bool
  | .int _ => true
  | .str _ => true
  | .tuple ds => (asKeys ds).isSome
  | _ => false
def isTup : D → Bool
  | .tuple _ => true
  | _ => false
def allIT (kvs : List (D × D)) (t : Bool) : Bool := kvs.all fun q => isTup q.1 == t
def findD (kvs : List (D × D)) (k : D) : Option D := (kvs.find? fun q => PyData.eqv q.1 k).map (·.2)
def inT (neg : Bool) (x y : TV) : Option TV := match x.data, y.data with
  | some d, some (.list xs) => if okIn d xs = true then some (bv (xor neg (xs.any fun z => PyData.eqv z d))) else none
  | some d, some (.tuple xs) => if okIn d xs = true then some (bv (xor neg (xs.any fun z => PyData.eqv z d))) else none
  | some (.str a), some (.str b) => some (bv (xor neg (!(Builtin.Str.occurrences b a 0 b.length 1).isEmpty)))
  | some d, some (.dict kvs) => if keyOk d = true ∧ (kvs = [] ∨ allIT kvs (isTup d) = true) then some (bv (xor neg (findD kvs d).isSome)) else none
  | _, _ => none
end DL

namespace DL
open PySem PySem.Spec PyProof.Rows L2 PySem.W

/-! ### dicts: looking up -/
theorem asKey_ok {d : D} {k : Key} (h : asKey d = some k) : d = keyD k := by
  cases d <;> cases h <;> rfl
theorem asKeys_ok : ∀ {ds : List D} {ks : List Key}, asKeys ds = some ks → ds = ks.map keyD
  | [], ks, h => by cases h; rfl
  | d :: ds, ks, h => by
    rw [asKeys] at h
    cases e1 : asKey d with
    | none => rw [e1] at h; cases h
    | some k =>
      cases e2 : asKeys ds with
      | none => rw [e1, e2] at h; cases h
      | some r =>
        rw [e1, e2] at h
        cases h
        rw [List.map_cons, asKey_ok e1, asKeys_ok e2]
theorem beq_dec {α : Type} [BEq α] [LawfulBEq α] [DecidableEq α] (a b : α) : (a == b) = decide (a = b) := by
  rw [Bool.eq_iff_iff, beq_iff_eq, decide_eq_true_eq]
theorem eqv_key (a b : Key) : PyData.eqv (keyD a) (keyD b) = decide (a = b) := by
  cases a <;> cases b <;> simp [keyD, PyData.eqv, beq_dec]
theorem isTup_keyD (k : Key) : isTup (keyD k) = false := by cases k <;> rfl
theorem isTup_keyTD (k : List Key) : isTup (keyTD k) = true := rfl
theorem eqv_keys : ∀ (a b : List Key), PyData.eqvAll (a.map keyD) (b.map keyD) = decide (a = b)
  | [], [] => by simp [PyData.eqvAll]
  | [], _ :: _ => by simp [PyData.eqvAll]
  | _ :: _, [] => by simp [PyData.eqvAll]
  | x :: xs, y :: ys => by
    rw [List.map_cons, List.map_cons, PyData.eqvAll, eqv_key, eqv_keys xs ys]
    simp [Bool.decide_and]
theorem eqv_keyT (a b : List Key) : PyData.eqv (keyTD a) (keyTD b) = decide (a = b) := by
  show PyData.eqv (.tuple _) (.tuple _) = _
  rw [PyData.eqv, eqv_keys]
def OptRep (K : PySem.W.Frag) (P : Pd) (H : Hp) : Option V → Option D → Prop
  | some v, some d => Rep K P H v d
  | none, none => True
  | _, _ => False
theorem OptRep.some_of {K : PySem.W.Frag} {P : Pd} {H : Hp} {o : Option V} {d : D} (h : OptRep K P H o (some d)) : ∃ v, o = some v ∧ Rep K P H v d := by
  cases o with
  | none => exact h.elim
  | some v => exact ⟨v, rfl, h⟩
theorem OptRep.none_of {K : PySem.W.Frag} {P : Pd} {H : Hp} {o : Option V} (h : OptRep K P H o none) : o = none := by
  cases o with
  | none => rfl
  | some v => exact h.elim
theorem OptRep.isSome {K : PySem.W.Frag} {P : Pd} {H : Hp} {o : Option V} {d : Option D} (h : OptRep K P H o d) : o.isSome = d.isSome := by
  cases o <;> cases d <;> first | rfl | exact h.elim
theorem find_rep {K : PySem.W.Frag} {P : Pd} {H : Hp} {κ : Type} [DecidableEq κ] (f : κ → D) (hf : ∀ a b, PyData.eqv (f a) (f b) = decide (a = b)) (k : κ) :
    ∀ {l : List (κ × V)} {kvs : List (D × D)}, kvs.map (·.1) = l.map (fun q => f q.1) → Reps K P H (l.map (·.2)) (kvs.map (·.2)) → OptRep K P H (valV l k) (findD kvs (f k))
  | [], [], _, _ => trivial
  | [], _ :: _, e, _ => by simp at e
  | _ :: _, [], e, _ => by simp at e
  | (a, v) :: l, (x, d) :: kvs, e, r => by
    rw [List.map_cons, List.map_cons] at e
    injection e with e1 e2
    have e1 : x = f a := e1
    rw [List.map_cons, List.map_cons] at r
    cases r with
    | cons r1 r2 =>
      have ih := find_rep f hf k e2 r2
      unfold findD at ih ⊢
      rw [List.find?_cons]
      have q : PyData.eqv (x, d).1 (f k) = decide (a = k) := by rw [show (x, d).1 = f a from e1, hf]
      rw [q]
      by_cases h : a = k
      · rw [decide_eq_true h, valV_pos (p := (a, v)) h]
        exact r1
      · rw [decide_eq_false h, valV_neg (p := (a, v)) h]
        exact ih
section
variable {X : Cx} {pins : List (Addr × Obj)} {σ : L2.St} {H : Hp} {s : Shared} {P P2 : Pd} {p : Addr}
theorem k2t (I : Inv X pins σ H s) (h : H p = some (.dK [])) : Inv X pins σ (upd H p (.dT [])) s := by
  obtain ⟨z, y, vs, r, o, es, ep, h1, h2, h3, _, h5, _⟩ := (show ObjOk X.prog X.w H s.heap p (.dK []) from I.hok p _ h)
  cases r
  have e : es.toList = [] := by
    generalize es.toList = l at h5
    cases h5
    rfl
  exact I.write (x := p) (e := p) (h' := s.heap) (t' := s.toks) (by rw [h]; trivial) (.inl rfl) (fun _ _ _ q => q) ⟨o, h1⟩ ⟨z, y, [], .nil, o, es, ep, h1, h2, h3, e, .nil⟩
theorem t2k (I : Inv X pins σ H s) (h : H p = some (.dT [])) : Inv X pins σ (upd H p (.dK [])) s := by
  obtain ⟨z, y, xs, r, o, es, ep, h1, h2, h3, h4, _⟩ := (show ObjOk X.prog X.w H s.heap p (.dT []) from I.hok p _ h)
  cases r
  have e : es.toList = [] := h4
  refine I.write (x := p) (e := p) (h' := s.heap) (t' := s.toks) (by rw [h]; trivial) (.inl rfl) (fun _ _ _ q => q) ⟨o, h1⟩ ⟨z, y, [], .nil, o, es, ep, h1, h2, h3, ?_, by rw [e]; exact .nil, .nil⟩
  have e2 : es = #[] := Array.toList_eq_nil_iff.mp e
  rw [e2]
  intro x hx
  simp at hx
theorem back_k {X' : Cx} {s' : Shared} (h : H p = some (.dK [])) (I : Inv X' pins σ (upd H p (.dT [])) s') : Inv X' pins σ H s' := by
  have q := t2k I upd_same
  rw [upd_upd] at q
  have e : upd H p (.dK []) = H := by
    funext a
    by_cases ha : a = p
    · rw [ha, upd_same, h]
    · rw [upd_ne ha]
  rw [e] at q
  exact q
theorem back_t {X' : Cx} {s' : Shared} (h : H p = some (.dT [])) (I : Inv X' pins σ (upd H p (.dK [])) s') : Inv X' pins σ H s' := by
  have q := k2t I upd_same
  rw [upd_upd] at q
  have e : upd H p (.dT []) = H := by
    funext a
    by_cases ha : a = p
    · rw [ha, upd_same, h]
    · rw [upd_ne ha]
  rw [e] at q
  exact q
theorem rep_key {K : PySem.W.Frag} {v : V} {k : Key} (h : Rep K P H v (keyD k)) : v = kV k := by
  cases k with
  | inl i => cases h; rfl
  | inr x => cases h; rfl
theorem reps_keys {K : PySem.W.Frag} : ∀ {vs : List V} {ks : List Key}, Reps K P H vs (ks.map keyD) → vs = ks.map kV
  | _, [], .nil => rfl
  | _, k :: ks, .cons r rs => by rw [rep_key r, reps_keys rs, List.map_cons]
theorem rep_keyT {K : PySem.W.Frag} {v : V} {k : List Key} (h : Rep K P H v (keyTD k)) : ∃ b, v = .ref b ∧ H b = some (.tup (k.map kV)) := by
  cases h with
  | tup h1 h2 => exact ⟨_, rfl, by rw [← reps_keys h2]; exact h1⟩
theorem keyOk_cases {d : D} (h : keyOk d = true) : (∃ k, d = keyD k ∧ isTup d = false) ∨ ∃ k, d = keyTD k ∧ isTup d = true := by
  cases d with
  | int i => exact .inl ⟨.inl i, rfl, rfl⟩
  | str x => exact .inl ⟨.inr x, rfl, rfl⟩
  | tuple ds =>
    have h2 : (asKeys ds).isSome = true := h
    cases e : asKeys ds with
    | none => rw [e] at h2; cases h2
    | some ks => exact .inr ⟨ks, by rw [asKeys_ok e]; rfl, rfl⟩
  | _ => cases h
theorem with_get {kvs : List (D × D)} {d : D} {v : V} (I : Inv X pins σ H s) (h : DcAt X.K P H p kvs) (rd : Rep X.K P2 H v d) (ko : keyOk d = true) (sh : kvs = [] ∨ allIT kvs (isTup d) = true) {C : Prop}
    (go : ∀ H2 o, Inv X pins σ H2 s → DGet H2 p v o → OptRep X.K P H o (findD kvs d) → (∀ s', Inv X pins σ H2 s' → Inv X pins σ H s') → C) : C := by
  rcases keyOk_cases ko with ⟨k, rfl, ht⟩ | ⟨k, rfl, ht⟩
  · have ev := rep_key rd
    subst ev
    rcases h with ⟨l, h1, h2, h3⟩ | ⟨l, h1, h2, h3⟩
    · exact go H _ I (DGet.k h1) (find_rep keyD eqv_key k h2 h3) fun _ z => z
    · have e0 : kvs = [] := by
        rcases sh with e | e
        · exact e
        · cases kvs with
          | nil => rfl
          | cons q r =>
            cases l with
            | nil => simp at h2
            | cons a l =>
              rw [List.map_cons, List.map_cons] at h2
              injection h2 with h2 _
              rw [ht] at e
              simp [allIT, h2, isTup_keyTD] at e
      subst e0
      have el : l = [] := by
        cases l with
        | nil => rfl
        | cons a l => simp at h2
      subst el
      exact go (upd H p (.dK [])) _ (t2k I h1) (DGet.k (k := k) upd_same) trivial fun s' z => back_t h1 z
  · obtain ⟨b, rfl, hb⟩ := rep_keyT rd
    rcases h with ⟨l, h1, h2, h3⟩ | ⟨l, h1, h2, h3⟩
    · have e0 : kvs = [] := by
        rcases sh with e | e
        · exact e
        · cases kvs with
          | nil => rfl
          | cons q r =>
            cases l with
            | nil => simp at h2
            | cons a l =>
              rw [List.map_cons, List.map_cons] at h2
              injection h2 with h2 _
              rw [ht] at e
              simp [allIT, h2, ht, isTup_keyD] at e
      subst e0
      have el : l = [] := by
        cases l with
        | nil => rfl
        | cons a l => simp at h2
      subst el
      have hbp : b ≠ p := ne_of hb h1 fun z => by cases z
      exact go (upd H p (.dT [])) _ (k2t I h1) (DGet.t (k := k) upd_same (by rw [upd_ne hbp]; exact hb)) trivial fun s' z => back_k h1 z
    · exact go H _ I (DGet.t h1 hb) (find_rep keyTD eqv_keyT k h2 h3) fun _ z => z
end
section
variable {X : Cx} {hv : Hv}
theorem occ_in (neg : Bool) (b : Bool) : (if neg = true then !b else b) = xor neg b := by cases neg <;> cases b <;> rfl
theorem od_in (hu : X.A.units + 64 < cLine) : OpD hv X (compareOp .In) (inT false) := by
  intro pins s σ H x y v u Q I rx ry ⟨hd, P, H0, tx, ty, t, j, r1, r2, e, k⟩
  unfold inT at e
  split at e
  · rename_i d xs e1 e2
    split at e
    · rename_i ho
      cases e
      simp only [okIn, Bool.and_eq_true, decide_eq_true_eq] at ho
      obtain ⟨as, q1⟩ := rep_reads I (r1.rep e1) ho.2.1 rx
      obtain ⟨bs, q2⟩ := rep_reads I (r2.rep e2) (by simpa [PyData.plain] using ho.1) ry
      exact SeqAt.in_list_data q2 q1 ho.1 ho.2.1 (by have h : _ ≤ 60 := ho.2.2; omega) ⟨.bl _, H, I, rfl, k _ P H j.refl (by rw [Bool.false_xor]; exact Rep.bl _)⟩
    · cases e
  · rename_i d xs e1 e2
    split at e
    · rename_i ho
      cases e
      simp only [okIn, Bool.and_eq_true, decide_eq_true_eq] at ho
      obtain ⟨as, q1⟩ := rep_reads I (r1.rep e1) ho.2.1 rx
      obtain ⟨bs, q2⟩ := rep_reads I (r2.rep e2) (by simpa [PyData.plain] using ho.1) ry
      exact SeqAt.in_tuple_data q2 q1 ho.1 ho.2.1 (by have h : _ ≤ 60 := ho.2.2; omega) ⟨.bl _, H, I, rfl, k _ P H j.refl (by rw [Bool.false_xor]; exact Rep.bl _)⟩
    · cases e
  · rename_i a b e1 e2
    have h1 := r1.str e1
    have h2 := r2.str e2
    subst h1 h2
    cases e
    exact op_in_str pins s σ H _ _ v u Q I rx ry ⟨_, _, rfl, rfl, k _ P H j.refl (by rw [Bool.false_xor]; exact Rep.bl _)⟩
  · rename_i d kvs _ e1 e2
    split at e
    · rename_i ho
      cases e
      obtain ⟨p, rfl, hdc⟩ := r2.dct e2
      cases ry
      refine with_get I hdc (r1.rep e1) ho.1 ho.2 fun H2 o I2 g r bk => ?_
      exact d_in (by omega) I2 g rx fun s' I3 => ⟨.bl _, H, bk s' I3, rfl, k _ P H j.refl (by rw [Bool.false_xor, r.isSome]; exact Rep.bl _)⟩
    · cases e
  · cases e
theorem od_notIn (hu : X.A.units + 64 < cLine) : OpD hv X (compareOp .NotIn) (inT true) := by
  intro pins s σ H x y v u Q I rx ry ⟨hd, P, H0, tx, ty, t, j, r1, r2, e, k⟩
  unfold inT at e
  split at e
  · rename_i d xs e1 e2
    split at e
    · rename_i ho
      cases e
      simp only [okIn, Bool.and_eq_true, decide_eq_true_eq] at ho
      obtain ⟨as, q1⟩ := rep_reads I (r1.rep e1) ho.2.1 rx
      obtain ⟨bs, q2⟩ := rep_reads I (r2.rep e2) (by simpa [PyData.plain] using ho.1) ry
      exact SeqAt.notIn_list_data q2 q1 ho.1 ho.2.1 (by have h : _ ≤ 60 := ho.2.2; omega) ⟨.bl _, H, I, rfl, k _ P H j.refl (by rw [Bool.true_xor]; exact Rep.bl _)⟩
    · cases e
  · rename_i d xs e1 e2
    split at e
    · rename_i ho
      cases e
      simp only [okIn, Bool.and_eq_true, decide_eq_true_eq] at ho
      obtain ⟨as, q1⟩ := rep_reads I (r1.rep e1) ho.2.1 rx
      obtain ⟨bs, q2⟩ := rep_reads I (r2.rep e2) (by simpa [PyData.plain] using ho.1) ry
      exact SeqAt.notIn_tuple_data q2 q1 ho.1 ho.2.1 (by have h : _ ≤ 60 := ho.2.2; omega) ⟨.bl _, H, I, rfl, k _ P H j.refl (by rw [Bool.true_xor]; exact Rep.bl _)⟩
    · cases e
  · rename_i a b e1 e2
    have h1 := r1.str e1
    have h2 := r2.str e2
    subst h1 h2
    cases e
    exact op_notIn_str pins s σ H _ _ v u Q I rx ry ⟨_, _, rfl, rfl, k _ P H j.refl (by rw [Bool.true_xor]; exact Rep.bl _)⟩
  · rename_i d kvs _ e1 e2
    split at e
    · rename_i ho
      cases e
      obtain ⟨p, rfl, hdc⟩ := r2.dct e2
      cases ry
      refine with_get I hdc (r1.rep e1) ho.1 ho.2 fun H2 o I2 g r bk => ?_
      exact d_notIn (by omega) I2 g rx fun s' I3 => ⟨.bl _, H, bk s' I3, rfl, k _ P H j.refl (by rw [Bool.true_xor, r.isSome]; exact Rep.bl _)⟩
    · cases e
  · cases e
/-! is, is not: None, True, False -/
def isT (neg : Bool) (x y : TV) : Option TV := match x.data, y.data with
  | some a, some .none => some (bv (xor neg (isNon a)))
  | some (.bool a), some (.bool b) => some (bv (xor neg (a == b)))
  | _, _ => none
theorem rep_non {K : PySem.W.Frag} {P : Pd} {H : Hp} {v : V} {d : D} (h : Rep K P H v d) : decide (v = .non) = isNon d := by
  cases h <;> rfl
theorem od_is : OpD hv X (compareOp .Is) (isT false) := by
  intro pins s σ H x y v u Q I rx ry ⟨hd, P, H0, tx, ty, t, j, r1, r2, e, k⟩
  unfold isT at e
  split at e
  · rename_i a e1 e2
    have h2 := r2.non e2
    subst h2
    cases e
    exact op_isN pins s σ H _ _ v u Q I rx ry ⟨rfl, k _ P H j.refl (by rw [Bool.false_xor, rep_non (r1.rep e1)]; exact Rep.bl _)⟩
  · rename_i a b e1 e2
    have h1 := r1.bl e1
    have h2 := r2.bl e2
    subst h1 h2
    cases e
    refine op_isBl pins s σ H _ _ v u Q I rx ry ⟨_, _, rfl, rfl, k _ P H j.refl ?_⟩
    have q : decide (a = b) = xor false (a == b) := by rw [Bool.false_xor]; exact (Bool.beq_eq_decide_eq a b).symm
    rw [q]
    exact Rep.bl _
  · cases e
theorem od_isNot : OpD hv X (compareOp .IsNot) (isT true) := by
  intro pins s σ H x y v u Q I rx ry ⟨hd, P, H0, tx, ty, t, j, r1, r2, e, k⟩
  unfold isT at e
  split at e
  · rename_i a e1 e2
    have h2 := r2.non e2
    subst h2
    cases e
    exact op_notN pins s σ H _ _ v u Q I rx ry ⟨rfl, k _ P H j.refl (by rw [Bool.true_xor, rep_non (r1.rep e1)]; exact Rep.bl _)⟩
  · rename_i a b e1 e2
    have h1 := r1.bl e1
    have h2 := r2.bl e2
    subst h1 h2
    cases e
    refine op_notBl pins s σ H _ _ v u Q I rx ry ⟨_, _, rfl, rfl, k _ P H j.refl ?_⟩
    have q : (!decide (a = b)) = xor true (a == b) := by rw [Bool.true_xor, Bool.beq_eq_decide_eq]
    rw [q]
    exact Rep.bl _
  · cases e
end
end DL

namespace DL
open PySem PySem.Spec PyProof.Rows L2 PySem.W

/-! ### subscripts -/
theorem Reps.atI {K : PySem.W.Frag} {P : Pd} {H : Hp} {vs : List V} {ds : List D} {i : Int} {d : D} (r : Reps K P H vs ds) (h : L2.atI ds i = some d) : ∃ v, L2.atI vs i = some v ∧ Rep K P H v d := by
  unfold L2.atI at h ⊢
  rw [r.length]
  cases e : ixN ds.length i with
  | none => rw [e] at h; cases h
  | some k =>
    rw [e] at h
    obtain ⟨v, h1, h2⟩ := Reps.get' r (show ds[k]? = some d from h)
    exact ⟨v, h1, h2⟩
def pd (d : D) : TV := .pl (.d d)
def idxT (x y : TV) : Option TV := match x.data, y.data with
  | some (.list xs), some (.int i) => (atI xs i).map pd
  | some (.tuple xs), some (.int i) => (atI xs i).map pd
  | some (.str z), some (.int i) => if z.length ≤ sizeLine then (atI z.cps.toList i).map fun c => pd (.str ⟨#[c]⟩) else none
  | some (.dict kvs), some d => if keyOk d = true ∧ (kvs = [] ∨ allIT kvs (isTup d) = true) then (findD kvs d).map pd else none
  | _, _ => none
section
variable {X : Cx} {hv : Hv} {pos : Pos} {a b : Expr} {fa fb : FE}
theorem ix_dict (hu : X.A.units + 64 < cLine) : IxR X (fun x y H Q => ∃ p v, x = .ref p ∧ (∃ s : Shared, True) ∧ DGet H p y (some v) ∧ Q v H) := by
  intro value slice pins s σ H x y v u Q I rx ry h hs
  obtain ⟨p, z, rfl, _, g, q⟩ := h
  cases rx
  have hT := dict_typeIs I g
  unfold subscriptTail
  refine wpAny_bind ?_
  rw [getitemInPython_of_ne hT.not_modules]
  refine wpAny_bind (wpAny_specialOf hT PySem.F.slot_dict_getitem.lookup ?_)
  have fin : wpAny (model X.prog X.w) X.A (subscripted slice false (.ref p) u) (fun r s₃ => wpAny (model X.prog X.w) X.A (letTemporaryGo value (.ref p) r >>= fun _ => pure r) (EP X pins σ Q) X.xe s₃) X.xe s := by
    rw [hs]
    exact wpAny_operating (d_getItem (by omega) I g ry fun w' s3 I3 rw' => wpAny_bind (wpAny_letTemporaryGo (wpAny_pure ⟨z, H, I3, rw', q⟩)))
  first | exact wpAny_pure (wpAny_bind fin) | exact wpAny_bind (wpAny_pure (wpAny_bind fin)) | exact wpAny_bind fin
theorem ix_any (hu : X.A.units + 64 < cLine) : IxR X (rD ⟨X.K, hv⟩ idxT) := by
  intro value slice pins s σ H x y v u Q I rx ry ⟨hd, P, H0, tx, ty, t, j, r1, r2, e, k⟩ hs
  unfold idxT at e
  split at e
  · rename_i xs i e1 e2
    obtain ⟨p, vs, rfl, h1, q1⟩ := r1.lst e1
    have h2 := r2.int e2
    subst h2
    obtain ⟨d, h3, rfl⟩ := Option.map_eq_some_iff.mp e
    obtain ⟨z, h4, h5⟩ := Reps.atI q1 h3
    exact ix_list value slice pins s σ H _ _ v u Q I rx ry ⟨_, _, _, _, rfl, rfl, SqL.of h1, h4, k _ P H j.refl h5⟩ hs
  · rename_i xs i e1 e2
    obtain ⟨p, vs, rfl, h1, q1⟩ := r1.tup e1
    have h2 := r2.int e2
    subst h2
    obtain ⟨d, h3, rfl⟩ := Option.map_eq_some_iff.mp e
    obtain ⟨z, h4, h5⟩ := Reps.atI q1 h3
    exact ix_tup value slice pins s σ H _ _ v u Q I rx ry ⟨_, _, _, _, rfl, rfl, SqT.of h1, h4, k _ P H j.refl h5⟩ hs
  · rename_i z i e1 e2
    have h1 := r1.str e1
    have h2 := r2.int e2
    subst h1 h2
    split at e
    · rename_i hz
      obtain ⟨d, h3, rfl⟩ := Option.map_eq_some_iff.mp e
      exact ix_str value slice pins s σ H _ _ v u Q I rx ry ⟨_, _, _, rfl, rfl, hz, h3, k _ P H j.refl (Rep.str _)⟩ hs
    · cases e
  · rename_i kvs d e1 e2
    split at e
    · rename_i ho
      obtain ⟨z, h3, rfl⟩ := Option.map_eq_some_iff.mp e
      obtain ⟨p, rfl, hdc⟩ := r1.dct e1
      refine with_get I hdc (r2.rep e2) ho.1 ho.2 fun H2 o I2 g r bk => ?_
      rw [h3] at r
      obtain ⟨w, rfl, rw'⟩ := r.some_of
      have ed : H2 = H ∨ True := .inr trivial
      refine thn (ix_dict hu value slice pins s σ H2 _ _ v u (fun v' H' => v' = w ∧ H' = H2) I2 rx ry ⟨p, w, rfl, ⟨s, trivial⟩, g, rfl, rfl⟩ hs) fun a s' ⟨v', H', I', rv', e3, e4⟩ => ?_
      subst e3 e4
      exact ⟨_, H, bk s' I', rv', k _ P H j.refl rw'⟩
    · cases e
  · cases e
theorem de_idx (hu : X.A.units + 64 < cLine) (ha : DE hv X a fa) (hb : DE hv X b fb) (hs : PlainIx b := by intro _ _; rfl) : DE hv X (.Subscript a b pos) (dOp idxT fa fb) := pe_imp (pe_ix (ix_any hu) ha hb hs) t_op
end

/-! ### slices -/
abbrev FP := Gam → (Option Int → Prop) → Prop
def tDP (c : Cfg) (f : FP) : TO := fun σ H Q => ∃ γ hd P Q0, Sta c γ σ hd P H ∧ f γ Q0 ∧ ∀ o, Q0 o → ∀ hd' P' H', Grow c hd P H hd' P' H' → Q o H'
abbrev DP (hv : Hv) (X : Cx) (e : Option Expr) (f : FP) : Prop := PO X e (tDP ⟨X.K, hv⟩ f)
def dNo : FP := fun _ Q => Q none
def dPart (f : FE) : FP := fun γ Q => f γ fun t => match t.data with
  | some (.int i) => Q (some i)
  | _ => False
def cutG {α : Type} (xs : List α) (lo hi : Option Int) : List α := (xs.drop (HT.sIx xs.length 0 lo)).take (HT.sIx xs.length xs.length hi - HT.sIx xs.length 0 lo)
def slcT (x : TV) (lo hi : Option Int) : Option TV := match x.data with
  | some (.list xs) => some (.fr (cutG xs lo hi))
  | some (.tuple xs) => some (pd (.tuple (cutG xs lo hi)))
  | some (.str z) => if z.length ≤ sizeLine then some (pd (.str (cutS z lo hi))) else none
  | _ => none
def dSlc (fa : FE) (fl fh : FP) : FE := fun γ Q => fa γ fun x => fl γ fun l => fh γ fun h => onS (slcT x l h) Q
theorem Reps.cut {K : PySem.W.Frag} {P : Pd} {H : Hp} {vs : List V} {ds : List D} (r : Reps K P H vs ds) (lo hi : Option Int) : Reps K P H (cutV vs lo hi) (cutG ds lo hi) := by
  unfold cutV cutG
  rw [r.length]
  exact Reps.take _ (Reps.drop _ r)
theorem cutG_all {α : Type} {xs : List α} {lo hi : Option Int} (h : HT.sIx xs.length 0 lo = 0 ∧ HT.sIx xs.length xs.length hi = xs.length) : cutG xs lo hi = xs := by
  unfold cutG
  rw [h.1, h.2]
  simp
section
variable {X : Cx} {hv : Hv} {pos p2 : Pos} {a e : Expr} {lo hi : Option Expr} {fa : FE} {fl fh : FP}
theorem dp_no : DP hv X none dNo := ⟨fun pins s σ H Q I ⟨γ, hd, P, Q0, S, f, k⟩ => po_none.run pins s σ H Q I (k _ f hd P H S.j.refl)⟩
theorem dp_some (h : DE hv X e fa) : DP hv X (some e) (dPart fa) := ⟨fun pins s σ H Q I ⟨γ, hd, P, Q0, S, f, k⟩ => by
  refine (po_some h).run pins s σ H Q I ⟨γ, hd, P, _, S, f, fun t q v hd1 P1 H1 g1 r1 => ?_⟩
  split at q
  · rename_i i e1
    exact ⟨i, r1.int e1, k _ q hd1 P1 H1 g1⟩
  · exact q.elim⟩
def rDS (c : Cfg) : V → Option Int → Option Int → Hp → VK → Prop := fun x lo hi H Q => ∃ hd P H0 tx t, J c hd P H ∧ Res c hd P H0 H x tx ∧ slcT tx lo hi = some t ∧
  ∀ v P' H', Grow c hd P H hd P' H' → Res c hd P' H H' v t → Q v H'
theorem sl_any : SlR X (rDS ⟨X.K, hv⟩) := by
  intro pins s σ H x v vl vu lo hi sl Q I rx hs pl pu ⟨hd, P, H0, tx, t, j, r1, e, k⟩
  unfold slcT at e
  split at e
  · rename_i xs e1
    obtain ⟨p, vs, rfl, h1, q1⟩ := r1.lst e1
    cases e
    exact sl_list pins s σ H _ v vl vu lo hi sl Q I rx hs pl pu ⟨_, _, rfl, SqL.of h1, new_lst j (Reps.cut q1 lo hi) k⟩
  · rename_i xs e1
    obtain ⟨p, vs, rfl, h1, q1⟩ := r1.tup e1
    cases e
    refine sl_tupA pins s σ H _ v vl vu lo hi sl Q I rx hs pl pu ⟨_, _, rfl, SqT.of h1, fun w => ?_, fun _ => new_tup j (Reps.cut q1 lo hi) k⟩
    refine k _ P H j.refl ?_
    rw [cutG_all (by rw [← q1.length]; exact w)]
    exact Rep.tup h1 q1
  · rename_i z e1
    have h1 := r1.str e1
    subst h1
    split at e
    · rename_i hz
      cases e
      exact sl_str pins s σ H _ v vl vu lo hi sl Q I rx hs pl pu ⟨_, rfl, hz, k _ P H j.refl (Rep.str _)⟩
    · cases e
  · cases e
theorem de_slc (ha : DE hv X a fa) (hl : DP hv X lo fl) (hh : DP hv X hi fh) : DE hv X (.Subscript a (.Slice lo hi none p2) pos) (dSlc fa fl fh) := by
  refine pe_imp (pe_slice (sl_any (hv := hv)) ha hl hh) fun σ H Q ⟨γ, hd, P, Q0, S, f, k⟩ => ?_
  refine ⟨γ, hd, P, _, S, f, fun tx qx x hd1 P1 H1 g1 r1 => ?_⟩
  refine ⟨γ, hd1, P1, _, S.grow g1, qx, fun l ql hd2 P2 H2 g2 => ?_⟩
  refine ⟨γ, hd2, P2, _, (S.grow g1).grow g2, ql, fun h qh hd3 P3 H3 g3 => ?_⟩
  obtain ⟨t, e, q⟩ := of_onS qh
  have g12 := g1.trans S.j g2
  have g13 := g12.trans S.j g3
  refine ⟨hd3, P3, H, tx, t, g3.j, (r1.grow g1.j g2).grow g2.j g3, e, fun v P4 H4 g4 r4 => ?_⟩
  exact k t q v hd3 P4 H4 (g13.trans S.j g4) (r4.start fun a h => g13.free S.j h)
end

/-! ### chains, tests, and, or, not, if -/
def dB (f : FE) : FT := fun γ Q => f γ fun t => match t.data with
  | some (.bool b) => Q b
  | _ => False
def dChain (g g' : TV → TV → Option TV) (fa fb fc : FE) : FE := fun γ Q => fa γ fun x => fb γ fun y => onS (g x y) fun z => match z.data with
  | some (.bool true) => fc γ fun w => onS (g' y w) Q
  | some (.bool false) => Q (bv false)
  | _ => False
def truT (x : TV) : Option Bool := match x.data with
  | some .none => some false
  | some (.bool b) => some b
  | some (.int i) => some (i != 0)
  | some (.str y) => if y.length ≤ sizeLine then some ((y.length : Int) != 0) else none
  | some (.list xs) => some (!xs.isEmpty)
  | some (.tuple xs) => some (!xs.isEmpty)
  | _ => none
def dTru (f : FE) : FT := fun γ Q => f γ fun t => onS (truT t) Q
def dAnd (f g : FT) : FT := fun γ Q => f γ fun b => if b = true then g γ Q else Q false
def dOr (f g : FT) : FT := fun γ Q => f γ fun b => if b = true then Q true else g γ Q
def dNot (f : FT) : FT := fun γ Q => f γ fun b => Q (!b)
def dAndV (f g : FE) : FE := fun γ Q => f γ fun t => match t.data with
  | some (.bool b) => if b = true then g γ Q else Q (bv false)
  | _ => False
def dOrV (f g : FE) : FE := fun γ Q => f γ fun t => match t.data with
  | some (.bool b) => if b = true then Q (bv true) else g γ Q
  | _ => False
def dNotV (f : FE) : FE := fun γ Q => f γ fun t => onS (truT t) fun b => Q (bv (!b))
def dIte (c : FT) (f g : FE) : FE := fun γ Q => c γ fun b => if b = true then f γ Q else g γ Q
def dNeg (f : FE) : FE := fun γ Q => f γ fun t => match t.data with
  | some (.int i) => Q (iv (-i))
  | _ => False
section
variable {X : Cx} {hv : Hv} {pos : Pos} {a b c e : Expr} {rest : List Expr} {fa fb fc fe : FE} {f g : FT} {p q : TV → TV → Option TV}
theorem t_chain (σ : L2.St) (H : Hp) (Q : VK) (h : tD ⟨X.K, hv⟩ (dChain p q fa fb fc) σ H Q) : tChain (rD ⟨X.K, hv⟩ p) (rD ⟨X.K, hv⟩ q) (tD ⟨X.K, hv⟩ fa) (tD ⟨X.K, hv⟩ fb) (tD ⟨X.K, hv⟩ fc) σ H Q := by
  obtain ⟨γ, hd, P, Q0, S, f, k⟩ := h
  refine ⟨γ, hd, P, _, S, f, fun tx qx x hd1 P1 H1 g1 r1 => ?_⟩
  refine ⟨γ, hd1, P1, _, S.grow g1, qx, fun ty qy y hd2 P2 H2 g2 r2 => ?_⟩
  obtain ⟨t, e, qt⟩ := of_onS qy
  have g12 := g1.trans S.j g2
  refine ⟨hd2, P2, H, tx, ty, t, g2.j, r1.grow g1.j g2, r2.start fun a h => g1.free S.j h, e, fun v P3 H3 g3 r3 => ?_⟩
  have g13 := g12.trans S.j g3
  split at qt
  · rename_i e1
    refine ⟨true, r3.bl e1, iteT ?_⟩
    refine ⟨γ, hd2, P3, _, S.grow g13, qt, fun tw qw w hd4 P4 H4 g4 r4 => ?_⟩
    obtain ⟨t5, e5, q5⟩ := of_onS qw
    have g14 := g13.trans S.j g4
    refine ⟨hd4, P4, H1, ty, tw, t5, g4.j, (r2.grow g2.j g3).grow g3.j g4, r4.start (fun a h => g2.free g1.j (g3.free g2.j h)), e5, fun v5 P5 H5 g5 r5 => ?_⟩
    exact k t5 q5 v5 hd4 P5 H5 (g14.trans S.j g5) (r5.start fun a h => g14.free S.j h)
  · rename_i e1
    refine ⟨false, r3.bl e1, iteF ?_⟩
    exact k _ qt _ hd2 P3 H3 g13 (Rep.bl false)
  · exact qt.elim
theorem de_chain {op op' : CmpOp} (ho : OpD hv X (compareOp op) p) (ho' : OpD hv X (compareOp op') q) (ha : DE hv X a fa) (hb : DE hv X b fb) (hc : DE hv X c fc)
    (hm : lastMarks [op, op'] [b, c] = false := by with_unfolding_all rfl) : DE hv X (.Compare a [op, op'] [b, c] pos) (dChain p q fa fb fc) := pe_imp (pe_chain ho ho' ha hb hc hm) t_chain
theorem t_test {t : TE} (h0 : ∀ σ H Q, tD ⟨X.K, hv⟩ fe σ H Q → t σ H Q) (σ : L2.St) (H : Hp) (Q : Bool → Hp → Prop) (h : tDT ⟨X.K, hv⟩ (dB fe) σ H Q) : tTest t σ H Q := by
  obtain ⟨γ, hd, P, Q0, S, f, k⟩ := h
  refine h0 σ H _ ⟨γ, hd, P, _, S, f, fun t q v hd1 P1 H1 g1 r1 => ?_⟩
  split at q
  · rename_i b e1
    exact ⟨b, r1.bl e1, k _ q hd1 P1 H1 g1⟩
  · exact q.elim
theorem dt_cmp {op : CmpOp} (ho : OpD hv X (compareOp op) p) (ha : DE hv X a fa) (hb : DE hv X b fb) (hm : behindInMarks op b = false := by rfl) : DT hv X (.Compare a [op] [b] pos) (dB (dOp p fa fb)) := pt_imp (pt_cmpR ho ha hb hm) (t_test t_op)
theorem dt_chain {op op' : CmpOp} (ho : OpD hv X (compareOp op) p) (ho' : OpD hv X (compareOp op') q) (ha : DE hv X a fa) (hb : DE hv X b fb) (hc : DE hv X c fc)
    (hm : lastMarks [op, op'] [b, c] = false := by with_unfolding_all rfl) : DT hv X (.Compare a [op, op'] [b, c] pos) (dB (dChain p q fa fb fc)) := pt_imp (pt_chain ho ho' ha hb hc hm) (t_test t_chain)
theorem truT_ok {c : Cfg} {hd : Hd} {P : Pd} {H H0 : Hp} {v : V} {t : TV} {b : Bool} (r : Res c hd P H0 H v t) (h : truT t = some b) : TruV c.K v H b := by
  unfold truT at h
  split at h
  · rename_i e1; rw [r.non e1]; cases h; rfl
  · rename_i e1; rw [r.bl e1]; cases h; rfl
  · rename_i e1; rw [r.int e1]; cases h; rfl
  · rename_i e1
    rw [r.str e1]
    split at h
    · rename_i hz
      cases h
      exact ⟨hz, rfl⟩
    · cases h
  · rename_i e1
    obtain ⟨p, vs, rfl, h1, q1⟩ := r.lst e1
    cases h
    refine .inl ⟨vs, SqL.of h1, ?_⟩
    have := q1.length
    cases vs <;> cases ‹List D› <;> first | rfl | (simp at this)
  · rename_i e1
    obtain ⟨p, vs, rfl, h1, q1⟩ := r.tup e1
    cases h
    refine .inr (.inl ⟨vs, SqT.of h1, ?_⟩)
    have := q1.length
    cases vs <;> cases ‹List D› <;> first | rfl | (simp at this)
  · cases h
theorem dt_tru (ha : DE hv X a fa) (he : ∀ whole, isTrue a X.env whole = (do let v ← whole; standAt a.pos; holding [v] (truthy v)) := by intro _; rfl) : DT hv X a (dTru fa) := by
  refine pt_imp (pt_truth ha he) fun σ H Q ⟨γ, hd, P, Q0, S, f, k⟩ => ?_
  refine ⟨γ, hd, P, _, S, f, fun t q v hd1 P1 H1 g1 r1 => ?_⟩
  obtain ⟨b, e, q⟩ := of_onS q
  exact ⟨b, truT_ok r1 e, k _ q hd1 P1 H1 g1⟩
theorem dw_and1 (ha : DT hv X a f) : DW hv X (.BoolOp .And [a] pos) f := pw_and1 ha
theorem dw_or1 (ha : DT hv X a f) : DW hv X (.BoolOp .Or [a] pos) f := pw_or1 ha
theorem dw_and (ha : DT hv X a f) (hb : DW hv X (.BoolOp .And (b :: rest) pos) g) : DW hv X (.BoolOp .And (a :: b :: rest) pos) (dAnd f g) := by
  refine pw_imp (pw_and ha hb) fun σ H Q ⟨γ, hd, P, Q0, S, f, k⟩ => ?_
  refine ⟨γ, hd, P, _, S, f, fun b q hd1 P1 H1 g1 => ?_⟩
  cases b with
  | true => exact iteT ⟨γ, hd1, P1, _, S.grow g1, q, fun b q hd2 P2 H2 g2 => k _ q hd2 P2 H2 (g1.trans S.j g2)⟩
  | false => exact iteF (k _ q hd1 P1 H1 g1)
theorem dw_or (ha : DT hv X a f) (hb : DW hv X (.BoolOp .Or (b :: rest) pos) g) : DW hv X (.BoolOp .Or (a :: b :: rest) pos) (dOr f g) := by
  refine pw_imp (pw_or ha hb) fun σ H Q ⟨γ, hd, P, Q0, S, f, k⟩ => ?_
  refine ⟨γ, hd, P, _, S, f, fun b q hd1 P1 H1 g1 => ?_⟩
  cases b with
  | true => exact iteT (k _ q hd1 P1 H1 g1)
  | false => exact iteF ⟨γ, hd1, P1, _, S.grow g1, q, fun b q hd2 P2 H2 g2 => k _ q hd2 P2 H2 (g1.trans S.j g2)⟩
theorem dt_w (h : DW hv X e f) : DT hv X e f := PW.pt h
theorem dt_not (ha : DT hv X a f) : DT hv X (.UnaryOp .Not a pos) (dNot f) := by
  refine pt_imp (pt_not ha) fun σ H Q ⟨γ, hd, P, Q0, S, f, k⟩ => ?_
  exact ⟨γ, hd, P, _, S, f, fun b q hd1 P1 H1 g1 => k _ q hd1 P1 H1 g1⟩
theorem de_one {op} (ha : DE hv X a fa) : DE hv X (.BoolOp op [a] pos) fa := pe_one ha
theorem de_and (ha : DE hv X a fa) (hb : DE hv X (.BoolOp .And (b :: rest) pos) fb) : DE hv X (.BoolOp .And (a :: b :: rest) pos) (dAndV fa fb) := by
  refine pe_imp (pe_and ha hb) fun σ H Q ⟨γ, hd, P, Q0, S, f, k⟩ => ?_
  refine ⟨γ, hd, P, _, S, f, fun t q v hd1 P1 H1 g1 r1 => ?_⟩
  split at q
  · rename_i b e1
    refine ⟨b, r1.bl e1, ?_⟩
    cases b with
    | true => exact iteT ⟨γ, hd1, P1, _, S.grow g1, q, fun t q v hd2 P2 H2 g2 r2 => k _ q v hd2 P2 H2 (g1.trans S.j g2) (r2.start fun a h => g1.free S.j h)⟩
    | false => exact iteF (k _ q _ hd1 P1 H1 g1 (Rep.bl false))
  · exact q.elim
theorem de_or (ha : DE hv X a fa) (hb : DE hv X (.BoolOp .Or (b :: rest) pos) fb) : DE hv X (.BoolOp .Or (a :: b :: rest) pos) (dOrV fa fb) := by
  refine pe_imp (pe_or ha hb) fun σ H Q ⟨γ, hd, P, Q0, S, f, k⟩ => ?_
  refine ⟨γ, hd, P, _, S, f, fun t q v hd1 P1 H1 g1 r1 => ?_⟩
  split at q
  · rename_i b e1
    refine ⟨b, r1.bl e1, ?_⟩
    cases b with
    | true => exact iteT (k _ q _ hd1 P1 H1 g1 (Rep.bl true))
    | false => exact iteF ⟨γ, hd1, P1, _, S.grow g1, q, fun t q v hd2 P2 H2 g2 r2 => k _ q v hd2 P2 H2 (g1.trans S.j g2) (r2.start fun a h => g1.free S.j h)⟩
  · exact q.elim
theorem de_not (ha : DE hv X a fa) : DE hv X (.UnaryOp .Not a pos) (dNotV fa) := by
  refine pe_imp (pe_notT ha) fun σ H Q ⟨γ, hd, P, Q0, S, f, k⟩ => ?_
  refine ⟨γ, hd, P, _, S, f, fun t q v hd1 P1 H1 g1 r1 => ?_⟩
  obtain ⟨b, e, q⟩ := of_onS q
  exact ⟨b, truT_ok r1 e, k _ q _ hd1 P1 H1 g1 (Rep.bl _)⟩
theorem de_neg (ha : DE hv X a fa) : DE hv X (.UnaryOp .USub a pos) (dNeg fa) := by
  refine pe_imp (pe_un un_neg ha) fun σ H Q ⟨γ, hd, P, Q0, S, f, k⟩ => ?_
  refine ⟨γ, hd, P, _, S, f, fun t q v hd1 P1 H1 g1 r1 => ?_⟩
  split at q
  · rename_i i e1
    exact ⟨i, r1.int e1, k _ q _ hd1 P1 H1 g1 (Rep.int _)⟩
  · exact q.elim
theorem de_ite (hc : DT hv X c f) (ha : DE hv X a fa) (hb : DE hv X b fb) : DE hv X (.IfExp c a b pos) (dIte f fa fb) := by
  refine pe_imp (pe_ifExp hc ha hb) fun σ H Q ⟨γ, hd, P, Q0, S, f, k⟩ => ?_
  refine ⟨γ, hd, P, _, S, f, fun b q hd1 P1 H1 g1 => ?_⟩
  cases b with
  | true => exact iteT ⟨γ, hd1, P1, _, S.grow g1, q, fun t q v hd2 P2 H2 g2 r2 => k _ q v hd2 P2 H2 (g1.trans S.j g2) (r2.start fun a h => g1.free S.j h)⟩
  | false => exact iteF ⟨γ, hd1, P1, _, S.grow g1, q, fun t q v hd2 P2 H2 g2 r2 => k _ q v hd2 P2 H2 (g1.trans S.j g2) (r2.start fun a h => g1.free S.j h)⟩
end
end DL

namespace DL
open PySem PySem.Spec PyProof.Rows L2 PySem.W

/-! ### own functions -/
abbrev Spec := List RV → (RV → Prop) → Prop
def spOf (c : Cfg) (sp : Spec) : Sp := fun vs H Q _ => ∃ hd P rs Q0, J c hd P H ∧ RepVs c hd P H vs rs ∧ sp rs Q0 ∧ ∀ r, Q0 r → ∀ v hd' P' H', Grow c hd P H hd' P' H' → RepV c hd' P' H' v r → Q v H'
def TV.look : TV → RV
  | .pl r => r
  | .lv ds => .d (.list ds)
  | .fr ds => .d (.list ds)
  | .dv kvs => .d (.dict kvs)
  | .fd kvs => .d (.dict kvs)
def callD (sp : Spec) (ts : List TV) (Q : TV → Prop) : Prop := match rvs ts with
  | some rs => sp rs fun r => Q (.pl r)
  | none => sp (ts.map TV.look) fun r => match r with
    | .d x => imm x = true ∧ Q (.pl (.d x))
    | _ => False
def dCall (sp : Spec) (fr : FA) : FE := fun γ Q => fr γ fun ts => callD sp ts Q
section
variable {c : Cfg} {hd hd' hd2 : Hd} {P P' P2 : Pd} {H H' H2 H0 : Hp}
def allP (hd : Hd) (H : Hp) : Pd := fun a => H a ≠ none ∧ ¬ hdA hd a
theorem J.all (j : J c hd P H) : J c hd (allP hd H) H := ⟨fun _ h => h.1, j.hand, fun _ m h => h.2 m⟩
theorem J.keptAll (j : J c hd P H) : Kept c.K P H (allP hd H) H := ⟨fun a h => ⟨j.ptr a h, fun m => j.hnp a m h⟩, fun _ _ h _ => h, fun _ _ h => h⟩
theorem Res.look (j : J c hd P H) {v : V} {t : TV} (h : Res c hd P H0 H v t) : RepV c hd (allP hd H) H v t.look := by
  cases t with
  | pl r => exact RepV.kept j.keptAll (fun _ _ _ z => z) h
  | lv ds =>
    obtain ⟨p, vs, rfl, n, h1, h2⟩ := h
    exact .lst h1 ⟨by rw [h1]; exact Option.some_ne_none _, n⟩ (Reps.kept j.keptAll h2)
  | fr ds =>
    obtain ⟨p, vs, rfl, n, h1, h2, _⟩ := h
    exact .lst h1 ⟨by rw [h1]; exact Option.some_ne_none _, n⟩ (Reps.kept j.keptAll h2)
  | dv kvs =>
    obtain ⟨p, rfl, n, h1⟩ := h
    obtain ⟨o, ho, _⟩ := h1.there
    exact DcAt.rep (h1.kept j.keptAll fun _ z => z) ⟨by rw [ho]; exact Option.some_ne_none _, n⟩
  | fd kvs =>
    obtain ⟨p, rfl, n, h1, _⟩ := h
    obtain ⟨o, ho, _⟩ := h1.there
    exact DcAt.rep (h1.kept j.keptAll fun _ z => z) ⟨by rw [ho]; exact Option.some_ne_none _, n⟩
theorem Ress.looks (j : J c hd P H) : ∀ {vs : List V} {ts : List TV}, Ress c hd P H0 H vs ts → RepVs c hd (allP hd H) H vs (ts.map TV.look)
  | _, _, .nil => .nil
  | _, _, .cons r rs => .cons (r.look j) (Ress.looks j rs)
/-- a call that was given all that there is: P stays -/
theorem Grow.back (j : J c hd P H) (g : Grow c hd (allP hd H) H hd' P' H') : Grow c hd P H hd' P H' :=
  ⟨fun _ h => h, fun _ h => .inl h, g.keep, g.hds, ⟨fun a h z => j.ptr a h (g.free (J.all j) z), g.j.hand, fun a m h => by
    rcases g.hds with e | ⟨e, f⟩
    · rw [e] at m; exact j.hnp a m h
    · exact j.ptr a h (f a m)⟩⟩
end
section
variable {X : Cx} {hv : Hv} {pos p : Pos} {e : Expr} {es : List Expr} {fr : FA} {CX : CXT} {k : Nat} {f : Addr} {fd : FuncData} {ps : List Str} {sp : Spec} {x : Str} {E : XK}
theorem t_call (σ : L2.St) (H : Hp) (Q : VK) (h : tD ⟨X.K, hv⟩ (dCall sp fr) σ H Q) : tCall (spOf ⟨X.K, hv⟩ sp) [] E (tDA ⟨X.K, hv⟩ fr) σ H Q := by
  obtain ⟨γ, hd, P, Q0, S, f, k⟩ := h
  refine ⟨γ, hd, P, _, S, f, fun ts q vs hd1 P1 H1 g1 r1 => ?_⟩
  show spOf _ sp (vs ++ []) H1 Q E
  rw [List.append_nil]
  unfold callD at q
  split at q
  · rename_i rs e1
    obtain ⟨P2, m, r2⟩ := Ress.toRVs g1.j r1 e1
    refine ⟨hd1, P2, rs, _, m.j, r2, q, fun r qr v hd3 P3 H3 g3 r3 => ?_⟩
    exact k _ qr v hd3 P3 H3 ((g1.more m).trans S.j g3) r3
  · refine ⟨hd1, _, _, _, J.all g1.j, Ress.looks g1.j r1, q, fun r qr v hd3 P3 H3 g3 r3 => ?_⟩
    split at qr
    · rename_i d
      exact k _ qr.2 v hd3 P1 H3 (g1.trans S.j (g3.back g1.j)) (Rep.imm (fun _ _ z => z) r3 qr.1)
    · exact qr.elim
theorem de_call (F : FnOk X.prog X.w X.K X.mg X.base CX k f fd ps (spOf ⟨X.K, hv⟩ sp)) (hr : Room k X.A) (hm : X.mg x = some (.ref f)) (hk : PySem.W.keepIn X.K (.ref f) = true) (hb : Binds X.K fd ps []) (hx : Passes CX X E)
    (ha : DA hv X (e :: es) fr) (hg : Gl X x := by rfl) (hdb : (x == ("__debug__" : Str)) = false := by decide) (he : starEach (e :: es) X.env = (false, eval e X.env) :: starEach es X.env := by rfl) (hpl : (backTo pos (starEach es X.env)).any (·.1) = false := by rfl) :
    DE hv X (.Call (.Name x p) (e :: es) [] pos) (dCall sp fr) := pe_imp (pe_call F hr hg hm hk hb .nil hx ha hdb he hpl) t_call
end

/-! ### what is walked -/
/-- data items come, one after another; the thing that is walked stands at Pw -/
def Stand (Pw : Pd) (H H1 : Hp) : Prop := ∀ a o, H a = some o → (Pw a ∨ ∃ xs, o = .tup xs) → H1 a = some o
structure Wk (c : Cfg) (Jt : It) (ds : List D) (pl : Bool) (P : Pd) (H : Hp) (hd : Hd) where
  Pw : Pd
  G : Hp → Prop
  Y : Nat → Hp → V → Hp → Prop
  walk : Walk Jt ds.length G Y
  good : ∀ H1, Stand Pw H H1 → G H1
  free : ∀ a, Pw a → ¬ hdA hd a
  own : pl = true → ∀ a, Pw a → P a
  item : ∀ i H1 x H2 hd1 P1, Stand Pw H H1 → Kept c.K P H P1 H1 → J c hd1 P1 H1 → i < ds.length → Y i H1 x H2 → ∃ d, ds[i]? = some d ∧ Grow c hd1 P1 H1 hd1 P1 H2 ∧ Rep c.K P1 H2 x d
abbrev FI := Gam → (List D → Bool → Prop) → Prop
def tDI (c : Cfg) (f : FI) : TI := fun σ H R => ∃ γ hd P Q0, Sta c γ σ hd P H ∧ f γ Q0 ∧ ∀ ds pl, Q0 ds pl → ∀ hd' P' H' Jt, Grow c hd P H hd' P' H' → Nonempty (Wk c Jt ds pl P' H' hd') → R Jt H'
abbrev DI (hv : Hv) (X : Cx) (tg e : Expr) (f : FI) : Prop := PI X tg e (tDI ⟨X.K, hv⟩ f)
def TV.isPl : TV → Bool
  | .pl _ => true
  | _ => false
def signs (z : Str) : List D := z.cps.toList.map fun c => .str ⟨#[c]⟩
def dSeq (f : FE) : FI := fun γ Q => f γ fun t => match t.data with
  | some (.list ds) => Q ds (match t with | .lv _ => false | _ => true)
  | some (.tuple ds) => Q ds true
  | some (.str z) => Q (signs z) true
  | _ => False
section
variable {c : Cfg} {hd : Hd} {P : Pd} {H : Hp}
def wk_list {p : Addr} {vs : List V} {ds : List D} (h : H p = some (.lst vs)) (n : ¬ hdA hd p) (r : Reps c.K P H vs ds) {pl : Bool} (hp : pl = true → P p) : Wk c (Itl c.K p) ds pl P H hd where
  Pw := fun a => a = p
  G := fun H1 => SqL c.K H1 p vs
  Y := YAt vs
  walk := by rw [← r.length]; exact walk_list
  good := fun H1 s => SqL.of (s p _ h (.inl rfl))
  free := fun a e => by rw [e]; exact n
  own := fun e a h => by rw [h]; exact hp e
  item := fun i H1 x H2 hd1 P1 s k j hi ⟨e, hx⟩ => by
    subst e
    obtain ⟨d, h1, h2⟩ := r.get hx
    exact ⟨d, h1, j.refl, Rep.kept k h2⟩
def wk_tup {p : Addr} {vs : List V} {ds : List D} (h : H p = some (.tup vs)) (r : Reps c.K P H vs ds) : Wk c (Itt c.K p) ds true P H hd where
  Pw := fun _ => False
  G := fun H1 => SqT c.K H1 p vs
  Y := YAt vs
  walk := by rw [← r.length]; exact walk_tup
  good := fun H1 s => SqT.of (s p _ h (.inr ⟨vs, rfl⟩))
  free := fun a e => e.elim
  own := fun e a h => h.elim
  item := fun i H1 x H2 hd1 P1 s k j hi ⟨e, hx⟩ => by
    subst e
    obtain ⟨d, h1, h2⟩ := r.get hx
    exact ⟨d, h1, j.refl, Rep.kept k h2⟩
def wk_str {z : Str} : Wk c (Its z) (signs z) true P H hd where
  Pw := fun _ => False
  G := fun _ => True
  Y := fun i H v H' => H' = H ∧ ∃ c, z.cps[i]? = some c ∧ v = .str ⟨#[c]⟩
  walk := by
    have e : (signs z).length = z.cps.size := by unfold signs; simp
    rw [e]; exact walk_str
  good := fun _ _ => trivial
  free := fun a e => e.elim
  own := fun e a h => h.elim
  item := fun i H1 x H2 hd1 P1 s k j hi ⟨e, ch, hc, hx⟩ => by
    subst e hx
    refine ⟨.str ⟨#[ch]⟩, ?_, j.refl, .str _⟩
    unfold signs
    rw [List.getElem?_map, Array.getElem?_toList, hc]
    rfl
end
section
variable {X : Cx} {hv : Hv} {tg e : Expr} {f : FE}
theorem di_seq (he : DE hv X e f) : DI hv X tg e (dSeq f) := by
  refine ⟨fun pins s σ H R I ⟨γ, hd, P, Q0, S, q, k⟩ => ?_⟩
  refine thn (PE.run he pins s σ H (fun v H1 => ∃ t hd1 P1, Grow ⟨X.K, hv⟩ hd P H hd1 P1 H1 ∧ Res ⟨X.K, hv⟩ hd1 P1 H H1 v t ∧ (match t.data with
    | some (.list ds) => Q0 ds (match t with | .lv _ => false | _ => true)
    | some (.tuple ds) => Q0 ds true
    | some (.str z) => Q0 (signs z) true
    | _ => False)) I ⟨γ, hd, P, _, S, q, fun t qt v hd1 P1 H1 g1 r1 => ⟨t, hd1, P1, g1, r1, qt⟩⟩) fun v s1 ⟨x, H1, I1, rx, t, hd1, P1, g1, r1, qt⟩ => ?_
  split at qt
  · rename_i ds e1
    obtain ⟨p, vs, rfl, h1, q1⟩ := r1.lst e1
    cases rx
    obtain ⟨its, rv, pl, hz⟩ := I1.list (SqL.of h1)
    cases t with
    | pl r =>
      cases r with
      | d y =>
        cases e1
        cases r1 with
        | lst h2 h3 h4 =>
          rw [h1] at h2; cases h2
          have w := wk_list (c := ⟨X.K, hv⟩) h1 (fun m => g1.j.hnp _ m h3) q1 (pl := true) (fun _ => h3)
          exact wpAny_pyIter_list pl.isList (pi_one (tk := s1.toks) I1 _ (turn_list p _) ⟨_, Heap.get?_push_size _ rfl, rfl, rfl⟩ (k _ _ qt hd1 P1 H1 _ g1 ⟨w⟩))
      | _ => cases e1
    | lv ds =>
      cases e1
      obtain ⟨p', vs', e2, n, h2, h3⟩ := r1
      cases e2
      rw [h1] at h2; cases h2
      have w := wk_list (c := ⟨X.K, hv⟩) h1 n q1 (pl := false) (fun e => by cases e)
      exact wpAny_pyIter_list pl.isList (pi_one (tk := s1.toks) I1 _ (turn_list p _) ⟨_, Heap.get?_push_size _ rfl, rfl, rfl⟩ (k _ _ qt hd1 P1 H1 _ g1 ⟨w⟩))
    | fr ds =>
      obtain ⟨P2, m, r2⟩ := Res.plain g1.j r1 (x := .list ds) rfl
      cases e1
      cases r2 with
      | lst h2 h3 h4 =>
        rw [h1] at h2; cases h2
        have w := wk_list (c := ⟨X.K, hv⟩) h1 (fun z => m.j.hnp _ z h3) h4 (pl := true) (fun _ => h3)
        exact wpAny_pyIter_list pl.isList (pi_one (tk := s1.toks) I1 _ (turn_list p _) ⟨_, Heap.get?_push_size _ rfl, rfl, rfl⟩ (k _ _ qt hd1 P2 H1 _ (g1.more m) ⟨w⟩))
    | dv kvs => cases e1
    | fd kvs => cases e1
  · rename_i ds e1
    obtain ⟨p, vs, rfl, h1, q1⟩ := r1.tup e1
    cases rx
    obtain ⟨its, rv, pl, hz⟩ := I1.tuple (SqT.of h1)
    exact wpAny_pyIter_tuple (show s1.heap.IsTuple p its.toArray from pl) (pi_one (tk := s1.toks) I1 _ (turn_tuple p _) ⟨_, Heap.get?_push_size _ rfl, rfl, rfl⟩ (k _ _ qt hd1 P1 H1 _ g1 ⟨wk_tup h1 q1⟩))
  · rename_i z e1
    have h1 := r1.str e1
    subst h1
    obtain ⟨t', rfl⟩ := rx
    have q2 := k _ _ qt hd1 P1 H1 (Its z) g1 ⟨wk_str⟩
    cases ha : z.cps.all (· < 128)
    · exact wpAny_pyIter_wide ha (pi_one (tk := s1.toks) I1 _ (turn_str _ z t' "str_iterator" (.inr rfl)) ⟨_, Heap.get?_push_size _ rfl, rfl, rfl⟩ q2)
    · exact wpAny_pyIter_ascii ha (pi_one (tk := s1.toks) I1 _ (turn_str _ z t' "str_ascii_iterator" (.inl rfl)) ⟨_, Heap.get?_push_size _ rfl, rfl, rfl⟩ q2)
  · exact qt.elim
end
end DL

namespace DL
open PySem PySem.Spec PyProof.Rows L2 PySem.W

/-! ### ranges, zip, enumerate -/
/-- a table; the kernel does not look into it -/
noncomputable def tab {α : Type} (f : Nat → α) (n : Nat) : List α := Classical.choose (p := fun l : List α => l = (List.range n).map f) ⟨_, rfl⟩
theorem tab_def {α : Type} {f : Nat → α} {n : Nat} : tab f n = (List.range n).map f := Classical.choose_spec (p := fun l : List α => l = (List.range n).map f) ⟨_, rfl⟩
noncomputable def rangeD (lo : Int) (n : Nat) : List D := tab (fun (i : Nat) => .int (lo + (i : Int))) n
theorem rangeD_def {lo : Int} {n : Nat} : rangeD lo n = (List.range n).map fun (i : Nat) => .int (lo + (i : Int)) := tab_def
def dRng1 (fr : FA) : FI := fun γ Q => fr γ fun ts => match ts with
  | [a] => (match a.data with
    | some (.int j) => -(2 ^ 62) ≤ j ∧ j < 2 ^ 62 ∧ Q (rangeD 0 j.toNat) true
    | _ => False)
  | _ => False
def dRng2 (fr : FA) : FI := fun γ Q => fr γ fun ts => match ts with
  | [a, b] => (match a.data, b.data with
    | some (.int i), some (.int j) => (-(2 ^ 62) ≤ i ∧ i < 2 ^ 62 ∧ -(2 ^ 62) ≤ j ∧ j < 2 ^ 62) ∧ Q (rangeD i (j - i).toNat) true
    | _, _ => False)
  | _ => False
def zipD (xs ys : List D) : List D := xs.zipWith (fun x y => PyData.tuple [x, y]) ys
def notLv : TV → Bool
  | .lv _ => false
  | _ => true
def dZip (fr : FA) : FI := fun γ Q => fr γ fun ts => match ts with
  | [a, b] => (match a.data, b.data with
    | some (.list xs), some (.list ys) => Q (zipD xs ys) (notLv a && notLv b)
    | some (.tuple xs), some (.tuple ys) => Q (zipD xs ys) true
    | _, _ => False)
  | _ => False
def enumD (xs : List D) : List D := xs.mapIdx fun (i : Nat) x => PyData.tuple [.int i, x]
def dEnum (fr : FA) : FI := fun γ Q => fr γ fun ts => match ts with
  | [a] => (match a.data with
    | some (.list xs) => Q (enumD xs) (notLv a)
    | _ => False)
  | _ => False
section
variable {c : Cfg} {hd : Hd} {P P1 : Pd} {H H0 : Hp}
noncomputable def wk_range {lo : Int} {n : Nat} : Wk c (Itr lo n) (rangeD lo n) true P H hd where
  Pw := fun _ => False
  G := fun _ => True
  Y := YFn fun i => .int (lo + i)
  walk := by
    have e : (rangeD lo n).length = n := by rw [rangeD_def]; simp
    rw [e]; exact walk_range
  good := fun _ _ => trivial
  free := fun a e => e.elim
  own := fun e a h => h.elim
  item := fun i H1 x H2 hd1 P1 s k j hi ⟨e, hx⟩ => by
    subst e hx
    have hn : i < n := by rw [rangeD_def] at hi; simpa using hi
    refine ⟨.int (lo + i), ?_, j.refl, .int _⟩
    rw [rangeD_def]
    rw [List.getElem?_map, List.getElem?_range hn]
    rfl
theorem pair_new {K : PySem.W.Frag} {hv : Hv} (j : J ⟨K, hv⟩ hd P H) {T : Addr} (hT : H T = none) {x y : V} {a b : D} (ra : Rep K P H x a) (rb : Rep K P H y b) :
    Grow ⟨K, hv⟩ hd P H hd P (upd H T (.tup [x, y])) ∧ Rep K P (upd H T (.tup [x, y])) (.ref T) (.tuple [a, b]) := by
  have g := Grow.upd j (o := .tup [x, y]) hT
  exact ⟨g, .tup upd_same (.cons (Rep.kept (g.kept j) ra) (.cons (Rep.kept (g.kept j) rb) .nil))⟩
theorem zipD_at : ∀ {xs ys : List D} {i : Nat} {a b : D}, xs[i]? = some a → ys[i]? = some b → (zipD xs ys)[i]? = some (.tuple [a, b]) := fun {xs ys i a b} h1 h2 => by
  unfold zipD
  rw [List.getElem?_zipWith, h1, h2]
def wk_zipL {K : PySem.W.Frag} {hv : Hv} {a b : Addr} {vs ws : List V} {xs ys : List D} (h1 : H a = some (.lst vs)) (h2 : H b = some (.lst ws)) (n1 : ¬ hdA hd a) (n2 : ¬ hdA hd b) (r1 : Reps K P H vs xs) (r2 : Reps K P H ws ys) {pl : Bool} (hp : pl = true → P a ∧ P b) :
    Wk ⟨K, hv⟩ (Itz K a b) (zipD xs ys) pl P H hd where
  Pw := fun q => q = a ∨ q = b
  G := fun H => SqL K H a vs ∧ SqL K H b ws
  Y := YPair (fun i => vs[i]?) (fun i => ws[i]?)
  walk := by
    refine walk_zip ?_
    unfold zipD
    rw [List.length_zipWith, r1.length, r2.length]
  good := fun H1 s => ⟨SqL.of (s a _ h1 (.inl (.inl rfl))), SqL.of (s b _ h2 (.inl (.inr rfl)))⟩
  free := fun q e => by
    rcases e with e | e
    · rw [e]; exact n1
    · rw [e]; exact n2
  own := fun e q h => by
    rcases h with h | h
    · rw [h]; exact (hp e).1
    · rw [h]; exact (hp e).2
  item := fun i H1 v H2 hd1 P1 s k j hi ⟨T, x, y, e1, e2, e3, e4, e5⟩ => by
    subst e1 e3
    obtain ⟨d1, q1, p1⟩ := r1.get e4
    obtain ⟨d2, q2, p2⟩ := r2.get e5
    obtain ⟨g, r⟩ := pair_new j e2 (Rep.kept k p1) (Rep.kept k p2)
    exact ⟨_, zipD_at q1 q2, g, r⟩
theorem walk_zipT {K : PySem.W.Frag} {a b : Addr} {xs ys : List V} {n : Nat} (hn : n = min xs.length ys.length) : Walk (RZ.ItzT K a b) n (fun H => SqT K H a xs ∧ SqT K H b ys) (YPair (fun i => xs[i]?) (fun i => ys[i]?)) where
  goes := fun i H hi ⟨h1, h2⟩ => by
    have hx : i < xs.length := by omega
    have hy : i < ys.length := by omega
    exact ⟨xs, ys, xs[i], ys[i], h1, h2, by simp [hx], by simp [hy]⟩
  stops := fun H ⟨h1, h2⟩ => ⟨xs, ys, h1, h2, by omega⟩
  yields := fun i H x H' hi ⟨h1, h2⟩ ⟨T, u, w, e1, e2, e3, e4, e5⟩ => ⟨T, u, w, e1, e2, e3, e4 xs h1, e5 ys h2⟩
def wk_zipT {K : PySem.W.Frag} {hv : Hv} {a b : Addr} {vs ws : List V} {xs ys : List D} (h1 : H a = some (.tup vs)) (h2 : H b = some (.tup ws)) (r1 : Reps K P H vs xs) (r2 : Reps K P H ws ys) :
    Wk ⟨K, hv⟩ (RZ.ItzT K a b) (zipD xs ys) true P H hd where
  Pw := fun q => False
  G := fun H => SqT K H a vs ∧ SqT K H b ws
  Y := YPair (fun i => vs[i]?) (fun i => ws[i]?)
  walk := by
    refine walk_zipT ?_
    unfold zipD
    rw [List.length_zipWith, r1.length, r2.length]
  good := fun H1 s => ⟨SqT.of (s a _ h1 (.inr ⟨_, rfl⟩)), SqT.of (s b _ h2 (.inr ⟨_, rfl⟩))⟩
  free := fun q e => e.elim
  own := fun e q h => h.elim
  item := fun i H1 v H2 hd1 P1 s k j hi ⟨T, x, y, e1, e2, e3, e4, e5⟩ => by
    subst e1 e3
    obtain ⟨d1, q1, p1⟩ := r1.get e4
    obtain ⟨d2, q2, p2⟩ := r2.get e5
    obtain ⟨g, r⟩ := pair_new j e2 (Rep.kept k p1) (Rep.kept k p2)
    exact ⟨_, zipD_at q1 q2, g, r⟩
def wk_enum {K : PySem.W.Frag} {hv : Hv} {a : Addr} {vs : List V} {xs : List D} (h1 : H a = some (.lst vs)) (n1 : ¬ hdA hd a) (r1 : Reps K P H vs xs) {pl : Bool} (hp : pl = true → P a) :
    Wk ⟨K, hv⟩ (Ite K a) (enumD xs) pl P H hd where
  Pw := fun q => q = a
  G := fun H => SqL K H a vs
  Y := YPair (fun i => some (.int (i : Nat))) (fun i => vs[i]?)
  walk := by
    have e : (enumD xs).length = vs.length := by unfold enumD; rw [List.length_mapIdx, r1.length]
    rw [e]
    exact walk_enum
  good := fun H1 s => SqL.of (s a _ h1 (.inl rfl))
  free := fun q e => by rw [e]; exact n1
  own := fun e q h => by rw [h]; exact hp e
  item := fun i H1 v H2 hd1 P1 s k j hi ⟨T, x, y, e1, e2, e3, e4, e5⟩ => by
    cases e4
    subst e1 e3
    obtain ⟨d1, q1, p1⟩ := r1.get e5
    obtain ⟨g, r⟩ := pair_new j e2 (.int (i : Int)) (Rep.kept k p1)
    refine ⟨_, ?_, g, r⟩
    unfold enumD
    rw [List.getElem?_mapIdx, q1]
    rfl
/-- a list that is walked: plain where it can be -/
theorem Res.lstW {K : PySem.W.Frag} {hv : Hv} (j : J ⟨K, hv⟩ hd P H) {v : V} {t : TV} {ds : List D} (h : Res ⟨K, hv⟩ hd P H0 H v t) (e : t.data = some (.list ds)) :
    ∃ p vs P1, v = .ref p ∧ More ⟨K, hv⟩ hd P H0 H P1 ∧ H p = some (.lst vs) ∧ ¬ hdA hd p ∧ Reps K P1 H vs ds ∧ (notLv t = true → P1 p) := by
  cases t with
  | pl r => cases r with
    | d x =>
      cases e
      cases h with
      | lst h1 h2 h3 => exact ⟨_, _, P, rfl, .refl j, h1, fun m => j.hnp _ m h2, h3, fun _ => h2⟩
    | _ => cases e
  | lv ds =>
    cases e
    obtain ⟨p, vs, h1, n, h2, h3⟩ := h
    exact ⟨p, vs, P, h1, .refl j, h2, n, h3, fun z => by cases z⟩
  | fr ds =>
    obtain ⟨P2, m, r2⟩ := Res.plain j h (x := .list ds) rfl
    cases e
    cases r2 with
    | lst h1 h2 h3 => exact ⟨_, _, P2, rfl, m, h1, fun z => m.j.hnp _ z h2, h3, fun _ => h2⟩
  | dv kvs => cases e
  | fd kvs => cases e
end
section
variable {X : Cx} {hv : Hv} {tg e e2 : Expr} {fr : FA} {p pos tpos : Pos} {elts : List Expr} {kk : Nat}
theorem pi_imp {tg e : Expr} {w w' : TI} (h : PI X tg e w) (k : ∀ σ H R, w' σ H R → w σ H R) : PI X tg e w' := ⟨fun pins s σ H R I q => h.run pins s σ H R I (k σ H R q)⟩
theorem di_rng1 (hm : X.mg "range" = none) (ha : DA hv X [e] fr) (hg : Gl X "range" := by rfl) (hs : starEach [e] X.env = [(false, eval e X.env)] := by rfl) : DI hv X tg (.Call (.Name "range" p) [e] [] pos) (dRng1 fr) := by
  refine pi_imp (pi_range1 hg hm ha hs) fun σ H R ⟨γ, hd, P, Q0, S, f, k⟩ => ?_
  refine ⟨γ, hd, P, _, S, f, fun ts q vs hd1 P1 H1 g1 r1 => ?_⟩
  split at q
  · rename_i a
    split at q
    · rename_i j e1
      cases r1 with
      | cons ra rr =>
        cases rr
        exact ⟨j, by rw [ra.int e1], q.1, q.2.1, k _ _ q.2.2 hd1 P1 H1 _ g1 ⟨wk_range⟩⟩
    · exact q.elim
  · exact q.elim
theorem di_rng2 (hm : X.mg "range" = none) (ha : DA hv X [e, e2] fr) (hg : Gl X "range" := by rfl) (hs : starEach [e, e2] X.env = [(false, eval e X.env), (false, eval e2 X.env)] := by rfl) (hs2 : starEach [e2] X.env = [(false, eval e2 X.env)] := by rfl) :
    DI hv X tg (.Call (.Name "range" p) [e, e2] [] pos) (dRng2 fr) := by
  refine pi_imp (pi_range2 hg hm ha hs hs2) fun σ H R ⟨γ, hd, P, Q0, S, f, k⟩ => ?_
  refine ⟨γ, hd, P, _, S, f, fun ts q vs hd1 P1 H1 g1 r1 => ?_⟩
  split at q
  · rename_i a b
    split at q
    · rename_i i j e1 e2
      cases r1 with
      | cons ra rr =>
        cases rr with
        | cons rb rr =>
          cases rr
          exact ⟨i, j, by rw [ra.int e1, rb.int e2], q.1, k _ _ q.2 hd1 P1 H1 _ g1 ⟨wk_range⟩⟩
    · exact q.elim
  · exact q.elim
theorem di_zip (hm : X.mg "zip" = none) (ha : DA hv X [e, e2] fr) (hg : Gl X "zip" := by rfl) (hs : starEach [e, e2] X.env = (false, eval e X.env) :: starEach [e2] X.env := by rfl) (hpl : (backTo pos (starEach [e2] X.env)).any (·.1) = false := by rfl) :
    DI hv X (.Tuple elts kk tpos) (.Call (.Name "zip" p) [e, e2] [] pos) (dZip fr) := by
  refine pi_imp (RZ.pi_zipA hg hm ha hs hpl) fun σ H R ⟨γ, hd, P, Q0, S, f, k⟩ => ?_
  refine ⟨γ, hd, P, _, S, f, fun ts q vs hd1 P1 H1 g1 r1 => ?_⟩
  split at q
  · rename_i a b
    cases r1 with
    | cons ra rr =>
      cases rr with
      | cons rb rr =>
        cases rr
        split at q
        · rename_i xs ys e1 e2
          obtain ⟨p1, v1, P2, rfl, m1, h1, n1, q1, f1⟩ := Res.lstW g1.j ra e1
          obtain ⟨p2, v2, P3, rfl, m2, h2, n2, q2, f2⟩ := Res.lstW g1.j rb e2
          have j4 : J ⟨X.K, hv⟩ hd1 (fun a => P2 a ∨ P3 a) H1 := ⟨fun a h => h.elim (m1.j.ptr a) (m2.j.ptr a), g1.j.hand, fun a m h => h.elim (m1.j.hnp a m) (m2.j.hnp a m)⟩
          have m4 : More ⟨X.K, hv⟩ hd1 P1 H H1 (fun a => P2 a ∨ P3 a) := ⟨fun a h => .inl (m1.sub a h), fun a h => h.elim (m1.new a) (m2.new a), j4⟩
          have w := wk_zipL (hv := hv) (hd := hd1) (P := fun a => P2 a ∨ P3 a) h1 h2 n1 n2 (Reps.kept ⟨fun _ h => .inl h, fun _ _ h _ => h, fun _ _ h => h⟩ q1) (Reps.kept ⟨fun _ h => .inr h, fun _ _ h _ => h, fun _ _ h => h⟩ q2)
            (pl := notLv a && notLv b) (fun z => by rw [Bool.and_eq_true] at z; exact ⟨.inl (f1 z.1), .inr (f2 z.2)⟩)
          exact ⟨p1, p2, v1, v2, rfl, .inl ⟨SqL.of h1, SqL.of h2, k _ _ q hd1 _ H1 _ (g1.more m4) ⟨w⟩⟩⟩
        · rename_i xs ys e1 e2
          obtain ⟨p1, v1, rfl, h1, q1⟩ := ra.tup e1
          obtain ⟨p2, v2, rfl, h2, q2⟩ := rb.tup e2
          exact ⟨p1, p2, v1, v2, rfl, .inr ⟨SqT.of h1, SqT.of h2, k _ _ q hd1 P1 H1 _ g1 ⟨wk_zipT h1 h2 q1 q2⟩⟩⟩
        · exact q.elim
  · exact q.elim
theorem di_enum (hm : X.mg "enumerate" = none) (ha : DA hv X [e] fr) (hg : Gl X "enumerate" := by rfl) (hs : starEach [e] X.env = [(false, eval e X.env)] := by rfl) :
    DI hv X (.Tuple elts kk tpos) (.Call (.Name "enumerate" p) [e] [] pos) (dEnum fr) := by
  refine pi_imp (pi_enum hg hm ha hs) fun σ H R ⟨γ, hd, P, Q0, S, f, k⟩ => ?_
  refine ⟨γ, hd, P, _, S, f, fun ts q vs hd1 P1 H1 g1 r1 => ?_⟩
  split at q
  · rename_i a
    cases r1 with
    | cons ra rr =>
      cases rr
      split at q
      · rename_i xs e1
        obtain ⟨p1, v1, P2, rfl, m1, h1, n1, q1, f1⟩ := Res.lstW g1.j ra e1
        exact ⟨p1, v1, rfl, SqL.of h1, k _ _ q hd1 _ H1 _ (g1.more m1) ⟨wk_enum h1 n1 q1 f1⟩⟩
      · exact q.elim
  · exact q.elim
end

/-! ### targets -/
abbrev BT := D → Gam → Option Gam
abbrev BTs := List D → Gam → Option Gam
def bName (i : Nat) : BT := fun d γ => some (γ.set i (.pl (.d d)))
def bNil : BTs
  | [], γ => some γ
  | _ :: _, _ => none
def bCons (b : BT) (r : BTs) : BTs
  | d :: ds, γ => (b d γ).bind fun γ' => r ds γ'
  | [], _ => none
def bTup (n : Nat) (b : BTs) : BT := fun d γ => match d with
  | .tuple ds => if ds.length = n then b ds γ else none
  | _ => none
end DL

namespace DL
open PySem PySem.Spec PyProof.Rows L2 PySem.W

/-! ### targets -/
/-- the slots of a target alone are changed -/
def Sets (is : List Nat) (σ σ' : L2.St) : Prop := ∀ vs : List Nat, (∀ i ∈ is, i ∈ vs) → wipe σ' vs = wipe σ vs
def tDG (c : Cfg) (is : List Nat) (b : BT) : TG := fun v σ H Q => ∃ γ hd P d γ', Sta c γ σ hd P H ∧ Rep c.K P H v d ∧ b d γ = some γ' ∧ ∀ σ', Sta c γ' σ' hd P H → Sets is σ σ' → Q σ' H
def tDGs (c : Cfg) (is : List Nat) (b : BTs) : TGs := fun vs σ H Q => ∃ γ hd P ds γ', Sta c γ σ hd P H ∧ Reps c.K P H vs ds ∧ b ds γ = some γ' ∧ ∀ σ', Sta c γ' σ' hd P H → Sets is σ σ' → Q σ' H
abbrev DG (hv : Hv) (X : Cx) (tg : Expr) (is : List Nat) (b : BT) : Prop := PG X tg (tDG ⟨X.K, hv⟩ is b)
abbrev DGs (hv : Hv) (X : Cx) (tgs : List Expr) (is : List Nat) (b : BTs) : Prop := PGs X tgs (tDGs ⟨X.K, hv⟩ is b)
theorem wipe_get (σ : L2.St) : ∀ (vs : List Nat) (k : Nat), (wipe σ vs)[k]? = if k ∈ vs then (if k < σ.length then some none else none) else σ[k]?
  | [], k => by simp [wipe]
  | v :: vs, k => by
    unfold wipe
    by_cases h : v = k
    · subst h
      rw [if_pos (by simp)]
      by_cases hl : v < σ.length
      · rw [if_pos hl, List.getElem?_set_self (by rw [wipe_length]; exact hl)]
      · rw [if_neg hl, List.getElem?_eq_none (by rw [List.length_set, wipe_length]; omega)]
    · rw [List.getElem?_set_ne h, wipe_get σ vs k]
      have e : (k ∈ v :: vs) ↔ k ∈ vs := by
        rw [List.mem_cons]
        exact ⟨fun z => z.elim (fun q => absurd q.symm h) id, .inr⟩
      by_cases hk : k ∈ vs
      · rw [if_pos hk, if_pos (e.mpr hk)]
      · rw [if_neg hk, if_neg (fun z => hk (e.mp z))]
theorem Sets.refl (is : List Nat) (σ : L2.St) : Sets is σ σ := fun _ _ => rfl
theorem Sets.trans {is js : List Nat} {σ σ1 σ2 : L2.St} (a : Sets is σ σ1) (b : Sets js σ1 σ2) : Sets (is ++ js) σ σ2 := fun vs h =>
  (b vs fun i hi => h i (List.mem_append_right _ hi)).trans (a vs fun i hi => h i (List.mem_append_left _ hi))
theorem Sets.one (i : Nat) (σ : L2.St) (o : Option V) : Sets [i] σ (σ.set i o) := fun vs h => by
  have hi := h i (by simp)
  apply List.ext_getElem?
  intro k
  rw [wipe_get, wipe_get, List.length_set]
  by_cases hk : k ∈ vs
  · rw [if_pos hk, if_pos hk]
  · rw [if_neg hk, if_neg hk, List.getElem?_set_ne (fun z => hk (by rw [← z]; exact hi))]
section
variable {c : Cfg} {hd : Hd} {P : Pd} {H : Hp} {γ : Gam} {σ : L2.St}
theorem Sta.setPl (S : Sta c γ σ hd P H) (i : Nat) {v : V} {r : RV} (h : RepV c hd P H v r) : Sta c (γ.set i (.pl r)) (σ.set i (some v)) hd P H where
  len := by rw [List.length_set, List.length_set]; exact S.len
  pl := fun k r' e => by
    by_cases hk : i = k
    · subst hk
      by_cases hl : i < γ.length
      · rw [List.getElem?_set_self hl] at e
        cases e
        exact ⟨v, List.getElem?_set_self (by rw [← S.len]; exact hl), h⟩
      · rw [List.getElem?_eq_none (by rw [List.length_set]; omega)] at e; cases e
    · rw [List.getElem?_set_ne hk] at e ⊢
      exact S.pl k r' e
  ol := fun k ds e => by
    by_cases hk : i = k
    · subst hk
      by_cases hl : i < γ.length
      · rw [List.getElem?_set_self hl] at e; cases e
      · rw [List.getElem?_eq_none (by rw [List.length_set]; omega)] at e; cases e
    · rw [List.getElem?_set_ne hk] at e ⊢
      exact S.ol k ds e
  od := fun k ds e => by
    by_cases hk : i = k
    · subst hk
      by_cases hl : i < γ.length
      · rw [List.getElem?_set_self hl] at e; cases e
      · rw [List.getElem?_eq_none (by rw [List.length_set]; omega)] at e; cases e
    · rw [List.getElem?_set_ne hk] at e ⊢
      exact S.od k ds e
  dis := fun a b s t p ea eb oa ob ha hb => by
    have key : ∀ (k : Nat) (s : Sl), (γ.set i (.pl r))[k]? = some s → s.own = true → k ≠ i ∧ γ[k]? = some s := fun k s e o => by
      by_cases hk : i = k
      · subst hk
        by_cases hl : i < γ.length
        · rw [List.getElem?_set_self hl] at e; cases e; cases o
        · rw [List.getElem?_eq_none (by rw [List.length_set]; omega)] at e; cases e
      · rw [List.getElem?_set_ne hk] at e
        exact ⟨fun z => hk z.symm, e⟩
    obtain ⟨na, ea⟩ := key a s ea oa
    obtain ⟨nb, eb⟩ := key b t eb ob
    rw [List.getElem?_set_ne (Ne.symm na)] at ha
    rw [List.getElem?_set_ne (Ne.symm nb)] at hb
    exact S.dis a b s t p ea eb oa ob ha hb
  j := S.j
def wipeG (γ : Gam) : List Nat → Gam
  | [] => γ
  | v :: vs => (wipeG γ vs).set v .non
theorem Sta.forget1 (S : Sta c γ σ hd P H) (i : Nat) {σ' : L2.St} (hl : σ'.length = σ.length) (h : ∀ k, k ≠ i → σ'[k]? = σ[k]?) : Sta c (γ.set i .non) σ' hd P H := by
  have key : ∀ (k : Nat) (s : Sl), (γ.set i .non)[k]? = some s → s ≠ .non → σ'[k]? = σ[k]? ∧ γ[k]? = some s := fun k s e o => by
    by_cases hk : i = k
    · subst hk
      by_cases hl : i < γ.length
      · rw [List.getElem?_set_self hl] at e; cases e; exact absurd rfl o
      · rw [List.getElem?_eq_none (by rw [List.length_set]; omega)] at e; cases e
    · rw [List.getElem?_set_ne hk] at e
      exact ⟨h k fun z => hk z.symm, e⟩
  refine ⟨by rw [List.length_set, S.len, hl], fun k r e => ?_, fun k ds e => ?_, fun k ds e => ?_, fun a b s t p ea eb oa ob ha hb => ?_, S.j⟩
  · obtain ⟨e1, e2⟩ := key k _ e (fun z => by cases z)
    rw [e1]; exact S.pl k r e2
  · obtain ⟨e1, e2⟩ := key k _ e (fun z => by cases z)
    rw [e1]; exact S.ol k ds e2
  · obtain ⟨e1, e2⟩ := key k _ e (fun z => by cases z)
    rw [e1]; exact S.od k ds e2
  · obtain ⟨e1, e2⟩ := key a _ ea (fun z => by rw [z] at oa; cases oa)
    obtain ⟨e3, e4⟩ := key b _ eb (fun z => by rw [z] at ob; cases ob)
    rw [e1] at ha; rw [e3] at hb
    exact S.dis a b s t p e2 e4 oa ob ha hb
theorem Sta.wipe (S : Sta c γ σ hd P H) : ∀ vs : List Nat, Sta c (wipeG γ vs) (L2.wipe σ vs) hd P H
  | [] => S
  | v :: vs => (Sta.wipe S vs).forget1 v (show ((L2.wipe σ vs).set v none).length = _ by rw [List.length_set]) fun k hk => show ((L2.wipe σ vs).set v none)[k]? = _ by rw [List.getElem?_set_ne (Ne.symm hk)]
end
section
variable {X : Cx} {hv : Hv} {pos : Pos} {e : Expr} {es : List Expr} {is js : List Nat} {b : BT} {bs : BTs}
theorem dg_name {i : Nat} {x : Str} (hN : X.N.Nodup) (hi : X.N[i]? = some x := by rfl) (hx : Loc X.env.scope x := by first | exact .inl rfl | exact .inr rfl) (hf : X.fn x = true ∨ X.env.scope.names.lookup x = some .local := by first | exact .inl rfl | exact .inr rfl) : DG hv X (.Name x pos) [i] (bName i) := by
  refine ⟨fun pins s σ H v u Q I r ⟨γ, hd, P, d, γ', S, q, e, k⟩ => (pg_name hN hi hx hf).run pins s σ H v u Q I r ?_⟩
  cases e
  exact k _ (S.setPl i q) (Sets.one i σ _)
theorem dgs_nil : DGs hv X [] [] bNil := by
  refine ⟨fun pins s σ H vs us Q I r ⟨γ, hd, P, ds, γ', S, q, e, k⟩ => pgs_nil.run pins s σ H vs us Q I r ?_⟩
  cases q with
  | nil =>
    cases e
    exact ⟨rfl, k _ S (Sets.refl _ _)⟩
  | cons _ _ => cases e
theorem dgs_cons (h1 : DG hv X e is b) (h2 : DGs hv X es js bs) (hs : (assignEach (e :: es) X.env).map (·.2) = assign e X.env :: (assignEach es X.env).map (·.2) := by rfl) : DGs hv X (e :: es) (is ++ js) (bCons b bs) := by
  refine ⟨fun pins s σ H vs us Q I r ⟨γ, hd, P, ds, γ', S, q, e, k⟩ => (pgs_cons h1 h2 hs).run pins s σ H vs us Q I r ?_⟩
  cases q with
  | nil => cases e
  | cons q qs =>
    obtain ⟨γ1, e1, e2⟩ := Option.bind_eq_some_iff.mp e
    exact ⟨_, _, rfl, γ, hd, P, _, γ1, S, q, e1, fun σ1 S1 t1 => ⟨γ1, hd, P, _, γ', S1, qs, e2, fun σ2 S2 t2 => k σ2 S2 (t1.trans t2)⟩⟩
theorem dg_tup {n : Nat} {k : Nat} (hc : X.calm = true) (h : DGs hv X es is bs) (hn : (assignEach es X.env).length = n := by rfl) (hst : (assignEach es X.env).findIdx? (·.1) = none := by rfl) : DG hv X (.Tuple es k pos) is (bTup n bs) := by
  refine ⟨fun pins s σ H v u Q I r ⟨γ, hd, P, d, γ', S, q, e, k⟩ => (pg_tup hc h hn hst).run pins s σ H v u Q I r ?_⟩
  unfold bTup at e
  split at e
  · split at e
    · rename_i hl
      cases q with
      | tup h1 h2 => exact ⟨_, _, rfl, SqT.of h1, by rw [h2.length]; exact hl, γ, hd, P, _, γ', S, h2, e, k⟩
    · cases e
  · cases e
end

/-! ### comprehensions -/
def dYes : FT := fun _ Q => Q true
def lcD (b : BT) (fc : FT) (fe : FE) (γ : Gam) : List D → List D → (List D → Prop) → Prop
  | [], acc, k => k acc
  | d :: ds, acc, k => onS (b d γ) fun γ2 => fc γ2 fun c => if c = true then fe γ2 fun t => onS t.plain fun x => acc.length < sizeLine ∧ lcD b fc fe γ ds (acc ++ [x]) k else lcD b fc fe γ ds acc k
def dLc (fi : FI) (b : BT) (vs : List Nat) (fc : FT) (fe : FE) : FE := fun γ Q => fi γ fun ds _ => lcD b fc fe (wipeG γ vs) ds [] fun out => Q (.fr out)
section
variable {c : Cfg} {hd hd' : Hd} {P P' : Pd} {H H' : Hp} {p : Addr}
/-- an object of one's own is written -/
theorem Grow.mut (g : Grow c hd P H hd' P' H') (hp : H p = none) (np : ¬ P' p) (nh : ¬ hdA hd' p) {o : HO} (o' : HO) (hq : H' p = some o) (nc : NC o := by first | exact nc_lst | exact nc_dK | exact nc_dT | assumption) : Grow c hd P H hd' P' (L2.upd H' p o') := by
  refine ⟨g.sub, g.new, fun a u h m => ?_, g.hds, ⟨fun a h => ?_, ?_, g.j.hnp⟩⟩
  · have ha : a ≠ p := fun z => by rw [z, hp] at h; cases h
    rw [upd_ne ha]
    exact g.keep a u h m
  · by_cases ha : a = p
    · rw [ha]; rw [upd_same]; exact Option.some_ne_none _
    · rw [upd_ne ha]; exact g.j.ptr a h
  · exact g.j.hand.mut o' nh hq nc
theorem Kept.mut {K : PySem.W.Frag} (np : ¬ P p) {vs : List V} (hq : H p = some (.lst vs)) (o' : HO) : Kept K P H P (L2.upd H p o') :=
  ⟨fun _ h => h, fun a o h hP => by
    have ha : a ≠ p := fun z => np (z ▸ hP)
    rw [upd_ne ha]; exact h, fun a xs h => by
    have ha : a ≠ p := fun z => by rw [z, hq] at h; cases h
    rw [upd_ne ha]; exact h⟩
end
section
variable {X : Cx} {hv : Hv} {elt tg iter : Expr} {ifs : List Expr} {scope : Scope} {own : List (Str × Nat)} {pos : Pos} {fi : FI} {b : BT} {is : List Nat} {fc : FT} {fe : FE}
abbrev DTs (hv : Hv) (X : Cx) (ifs : List Expr) (f : FT) : Prop := PTs X ifs (tDT ⟨X.K, hv⟩ f)
theorem dts_nil : DTs hv X [] dYes := ⟨fun pins s σ H Q I ⟨γ, hd, P, Q0, S, f, k⟩ => pts_nil.run pins s σ H Q I (k _ f hd P H S.j.refl)⟩
theorem dts_one {e : Expr} {f : FT} (h : DT hv X e f) : DTs hv X [e] f := pts_one h
theorem t_lc (hvs : ∀ i ∈ is, i ∈ own.map (·.2)) (σ : L2.St) (H : Hp) (Q : VK) (h : tD ⟨X.K, hv⟩ (dLc fi b (own.map (·.2)) fc fe) σ H Q) :
    tLc (tDI ⟨X.K, hv⟩ fi) (tDG ⟨X.K, hv⟩ is b) (tDT ⟨X.K, hv⟩ fc) (tD ⟨X.K, hv⟩ fe) (own.map (·.2)) σ H Q := by
  obtain ⟨γ, hd, P, Q0, S, f, k⟩ := h
  refine ⟨γ, hd, P, _, S, f, fun ds pl q hd1 P1 H1 Jt g1 ⟨w⟩ Da hDa => ?_⟩
  have S1 := S.grow g1
  have nD := g1.j.fresh hDa
  have std : ∀ {hd2 P2 H2}, Grow ⟨X.K, hv⟩ hd1 P1 H1 hd2 P2 H2 → Stand w.Pw H1 H2 := fun {hd2 P2 H2} g a o ho hs => by
    refine g.keep a o ho fun m => ?_
    rcases hs with hs | ⟨xs, rfl⟩
    · exact w.free a hs m
    · exact g1.j.hand.no ho (fun _ z => by cases z) (fun _ z => by cases z) m
  refine ⟨fun i m H => m = ds.length - i ∧ i ≤ ds.length ∧ ∃ hd2 P2 vs acc, Grow ⟨X.K, hv⟩ hd1 P1 H1 hd2 P2 H ∧ H Da = some (.lst vs) ∧ Reps X.K P2 H vs acc ∧ ¬ P2 Da ∧ ¬ hdA hd2 Da ∧
    lcD b fc fe (wipeG γ (own.map (·.2))) (ds.drop i) acc (fun out => Q0 (.fr out)), ⟨ds.length, by omega, Nat.zero_le _, hd1, P1, [], [], Grow.upd g1.j hDa, upd_same, .nil, nD.1, nD.2, q⟩, ?_⟩
  rintro i m H2 ⟨rfl, hi, hd2, P2, vs, acc, g2, hl, ra, np, nh, q2⟩
  by_cases hlt : i < ds.length
  · refine .inr ⟨w.walk.goes i H2 hlt (w.good H2 (std g2)), fun H3 => ∃ hd3 P3 vs acc, Grow ⟨X.K, hv⟩ hd1 P1 H1 hd3 P3 H3 ∧ H3 Da = some (.lst vs) ∧ Reps X.K P3 H3 vs acc ∧ ¬ P3 Da ∧ ¬ hdA hd3 Da ∧
      lcD b fc fe (wipeG γ (own.map (·.2))) (ds.drop (i + 1)) acc (fun out => Q0 (.fr out)), fun H3 h3 => ⟨ds.length - (i + 1), by omega, rfl, hlt, h3⟩, fun x H3 hy => ?_⟩
    obtain ⟨d, ed, g3, rd⟩ := w.item i H2 x H3 hd2 P2 (std g2) (g2.kept g1.j) g2.j hlt (w.walk.yields i H2 x H3 hlt (w.good H2 (std g2)) hy)
    have hdr : ds.drop i = d :: ds.drop (i + 1) := by
      obtain ⟨h1, h2⟩ := List.getElem?_eq_some_iff.mp ed
      rw [List.drop_eq_getElem_cons h1, h2]
    rw [hdr] at q2
    have q3 : onS (b d (wipeG γ (own.map (·.2)))) fun γ2 => fc γ2 fun c => if c = true then fe γ2 fun t => onS t.plain fun x => acc.length < sizeLine ∧ lcD b fc fe (wipeG γ (own.map (·.2))) (ds.drop (i + 1)) (acc ++ [x]) (fun out => Q0 (.fr out))
      else lcD b fc fe (wipeG γ (own.map (·.2))) (ds.drop (i + 1)) acc (fun out => Q0 (.fr out)) := q2
    obtain ⟨γ2, eb, q4⟩ := of_onS q3
    have g23 := g2.trans g1.j g3
    have S3 := ((S1.grow g23).wipe (own.map (·.2)))
    refine ⟨_, hd2, P2, d, γ2, S3, rd, eb, fun σ2 S4 st => ⟨?_, γ2, hd2, P2, _, S4, q4, fun cb q5 hd5 P5 H5 g5 => ?_⟩⟩
    · have e1 := st (own.map (·.2)) hvs
      rw [e1]
      apply List.ext_getElem?
      intro k
      rw [wipe_get, wipe_get, wipe_length]
      by_cases hk : k ∈ own.map (·.2)
      · rw [if_pos hk, if_pos hk]
      · rw [if_neg hk, if_neg hk]
    · have g25 := g23.trans g1.j g5
      have hl3 := g3.keep _ _ hl nh
      have hl5 := g5.keep _ _ hl3 nh
      have np5 := nnp g5 hl3 np
      have nh5 := nhd g5 hl3 nh
      have k5 := g5.kept g3.j
      cases cb with
      | true =>
        refine iteT ⟨γ2, hd5, P5, _, S4.grow g5, q5, fun t q6 y hd6 P6 H6 g6 r6 => ?_⟩
        obtain ⟨xd, ep, hz, q7⟩ := of_onS q6
        obtain ⟨P7, m7, r7⟩ := Res.plain g6.j r6 ep
        have hl6 := g6.keep _ _ hl5 nh5
        have np6 := nnp g6 hl5 np5
        have nh6 := nhd g6 hl5 nh5
        have np7 : ¬ P7 Da := fun z => (m7.new Da z).elim np6 fun z => by rw [hl5] at z; cases z
        have g7 := g6.more m7
        have ra7 := Reps.kept ((g7).kept g5.j) (Reps.kept k5 (Reps.kept (g3.kept g2.j) ra))
        have km : Kept X.K P7 H6 P7 (upd H6 Da (.lst (vs ++ [y]))) := Kept.mut np7 hl6 _
        refine ⟨vs, hl6, by rw [ra.length]; exact hz, hd6, P7, vs ++ [y], acc ++ [xd], (g25.trans g1.j g7).mut hDa np7 nh6 _ hl6, upd_same, Reps.app (Reps.kept km ra7) (.cons (Rep.kept km r7) .nil), np7, nh6, q7⟩
      | false => exact iteF ⟨hd5, P5, vs, acc, g25, hl5, Reps.kept k5 (Reps.kept (g3.kept g2.j) ra), np5, nh5, q5⟩
  · have e : i = ds.length := by omega
    subst e
    rw [List.drop_eq_nil_of_le (Nat.le_refl _)] at q2
    refine .inl ⟨w.walk.stops H2 (w.good H2 (std g2)), ?_⟩
    exact k _ q2 _ hd2 P2 H2 (g1.trans S.j g2) ⟨Da, vs, rfl, nh, hl, ra, g1.free S.j hDa, np⟩
theorem de_lc (hc : X.calm = true) (hN : X.N.Nodup) (hi : DI hv X tg iter fi) (ok : blkC X.N X.env.scope scope own = true)
    (hg : ∀ (s : Shared) (H : Hp) (C : Addr) (cl : List (Str × Addr)) (fp : List Addr), DG hv (X.blk s H scope (compEnvC scope cl C X.env) fp) tg is b)
    (ht : ∀ (s : Shared) (H : Hp) (C : Addr) (cl : List (Str × Addr)) (fp : List Addr), DTs hv (X.blk s H scope (compEnvC scope cl C X.env) fp) ifs fc)
    (he : ∀ (s : Shared) (H : Hp) (C : Addr) (cl : List (Str × Addr)) (fp : List Addr), DE hv (X.blk s H scope (compEnvC scope cl C X.env) fp) elt fe)
    (hvs : ∀ i ∈ is, i ∈ own.map (·.2) := by decide) (hs : ∀ x, foldedSetIterable iter X.env x = pure x := by intro _; rfl) :
    DE hv X (.ListComp elt [⟨tg, iter, ifs, 0⟩] scope pos) (dLc fi b (own.map (·.2)) fc fe) :=
  pe_imp (pe_lc hc hN hi (blkOk_by ok) hg ht he hs) (t_lc hvs)
end
end DL

namespace DL
open PySem PySem.Spec PyProof.Rows L2 PySem.W

/-! ### built-in functions -/
abbrev G1 := List TV → (TV → Prop) → Prop
def rDC (c : Cfg) (g : G1) : List V → Hp → VK → Prop := fun xs H Q => ∃ hd P H0 ts Q0, J c hd P H ∧ Ress c hd P H0 H xs ts ∧ g ts Q0 ∧
  ∀ t, Q0 t → ∀ v P' H', Grow c hd P H hd P' H' → Res c hd P' H H' v t → Q v H'
def dBlt (g : G1) (fr : FA) : FE := fun γ Q => fr γ fun ts => g ts Q
section
variable {X : Cx} {hv : Hv} {pos p : Pos} {e : Expr} {es : List Expr} {fr : FA} {g : G1} {x : Str} {id T : String}
theorem t_blt (σ : L2.St) (H : Hp) (Q : VK) (h : tD ⟨X.K, hv⟩ (dBlt g fr) σ H Q) : tCB (rDC ⟨X.K, hv⟩ g) (tDA ⟨X.K, hv⟩ fr) σ H Q := by
  obtain ⟨γ, hd, P, Q0, S, f, k⟩ := h
  refine ⟨γ, hd, P, _, S, f, fun ts q vs hd1 P1 H1 g1 r1 => ?_⟩
  exact ⟨hd1, P1, H, ts, Q0, g1.j, r1, q, fun t qt v P2 H2 g2 r2 => k t qt v hd1 P2 H2 (g1.trans S.j g2) (r2.start fun a h => g1.free S.j h)⟩
theorem de_blt (hc : CallR X (.builtin id) (rDC ⟨X.K, hv⟩ g)) (hm : X.mg x = none) (hb : bootBuiltins x = some (.builtin id)) (ha : DA hv X (e :: es) fr) (hg : Gl X x := by rfl) (hn : x ≠ "__name__" := by decide) (hdb : (x == ("__debug__" : Str)) = false := by decide)
    (he : starEach (e :: es) X.env = (false, eval e X.env) :: starEach es X.env := by rfl) (hpl : (backTo pos (starEach es X.env)).any (·.1) = false := by rfl) : DE hv X (.Call (.Name x p) (e :: es) [] pos) (dBlt g fr) := pe_imp (pe_callB hc hg hm hb ha hn hdb he hpl) t_blt
theorem de_bty (hc : CallR X (.type T) (rDC ⟨X.K, hv⟩ g)) (hm : X.mg x = none) (hb : bootBuiltins x = some (.type T)) (ha : DA hv X (e :: es) fr) (hg : Gl X x := by rfl) (hn : x ≠ "__name__" := by decide) (hdb : (x == ("__debug__" : Str)) = false := by decide)
    (he : starEach (e :: es) X.env = (false, eval e X.env) :: starEach es X.env := by rfl) (hpl : (backTo pos (starEach es X.env)).any (·.1) = false := by rfl) : DE hv X (.Call (.Name x p) (e :: es) [] pos) (dBlt g fr) := pe_imp (pe_callTy hc hg hm hb ha hn hdb he hpl) t_blt
end
def gLen : G1 := fun ts Q => match ts with
  | [a] => (match a.data with
    | some (.str y) => y.length ≤ sizeLine ∧ Q (iv (y.length : Int))
    | some (.list xs) => Q (iv (xs.length : Int))
    | some (.tuple xs) => Q (iv (xs.length : Int))
    | some (.dict kvs) => Q (iv (kvs.length : Int))
    | _ => False)
  | _ => False
def gAbs : G1 := fun ts Q => match ts with
  | [a] => (match a.data with
    | some (.int i) => Q (iv (if i < 0 then -i else i))
    | _ => False)
  | _ => False
def gInt : G1 := fun ts Q => match ts with
  | [a] => (match a.data with
    | some (.int i) => Q (iv i)
    | some (.bool b) => Q (iv (if b = true then 1 else 0))
    | _ => False)
  | _ => False
def gTuple : G1 := fun ts Q => match ts with
  | [a] => (match a.data with
    | some (.list xs) => Q (pd (.tuple xs))
    | some (.tuple xs) => Q (pd (.tuple xs))
    | _ => False)
  | _ => False
def gList : G1 := fun ts Q => match ts with
  | [a] => (match a.data with
    | some (.list xs) => Q (.fr xs)
    | some (.tuple xs) => Q (.fr xs)
    | _ => False)
  | _ => False
def blsOf : List D → Option (List Bool)
  | [] => some []
  | .bool b :: r => (blsOf r).map fun bs => b :: bs
  | _ :: _ => none
def intsOf : List D → Option (List Int)
  | [] => some []
  | .int b :: r => (intsOf r).map fun bs => b :: bs
  | _ :: _ => none
theorem blsOf_ok : ∀ {ds : List D} {bs : List Bool}, blsOf ds = some bs → ds = bs.map .bool
  | [], bs, h => by cases h; rfl
  | .bool b :: r, bs, h => by
    rw [blsOf] at h
    obtain ⟨cs, h1, rfl⟩ := Option.map_eq_some_iff.mp h
    rw [blsOf_ok h1, List.map_cons]
  | .none :: _, _, h => by cases h
  | .int _ :: _, _, h => by cases h
  | .str _ :: _, _, h => by cases h
  | .list _ :: _, _, h => by cases h
  | .tuple _ :: _, _, h => by cases h
  | .dict _ :: _, _, h => by cases h
theorem intsOf_ok : ∀ {ds : List D} {bs : List Int}, intsOf ds = some bs → ds = bs.map .int
  | [], bs, h => by cases h; rfl
  | .int b :: r, bs, h => by
    rw [intsOf] at h
    obtain ⟨cs, h1, rfl⟩ := Option.map_eq_some_iff.mp h
    rw [intsOf_ok h1, List.map_cons]
  | .none :: _, _, h => by cases h
  | .bool _ :: _, _, h => by cases h
  | .str _ :: _, _, h => by cases h
  | .list _ :: _, _, h => by cases h
  | .tuple _ :: _, _, h => by cases h
  | .dict _ :: _, _, h => by cases h
theorem blsOf_map : ∀ bs : List Bool, blsOf (bs.map .bool) = some bs
  | [] => rfl
  | b :: bs => by rw [List.map_cons, blsOf, blsOf_map bs]; rfl
theorem intsOf_map : ∀ bs : List Int, intsOf (bs.map .int) = some bs
  | [] => rfl
  | b :: bs => by rw [List.map_cons, intsOf, intsOf_map bs]; rfl
def gAll : G1 := fun ts Q => match ts with
  | [a] => (match a.data with
    | some (.list xs) => onS (blsOf xs) fun bs => Q (bv (bs.all id))
    | _ => False)
  | _ => False
def gAny : G1 := fun ts Q => match ts with
  | [a] => (match a.data with
    | some (.list xs) => onS (blsOf xs) fun bs => Q (bv (bs.any id))
    | _ => False)
  | _ => False
def gSum : G1 := fun ts Q => match ts with
  | [a] => (match a.data with
    | some (.list xs) => onS (intsOf xs) fun bs => Q (iv bs.sum)
    | _ => False)
  | _ => False
def okMM (xs : List D) : Prop := AlikeAll xs ∧ PyData.plainAll xs = true ∧ PyData.depthAll xs ≤ deep
def gMin : G1 := fun ts Q => match ts with
  | [a] => (match a.data with
    | some (.list (x :: xs)) => okMM (x :: xs) ∧ Q (pd (minD x xs))
    | some (.tuple (x :: xs)) => okMM (x :: xs) ∧ Q (pd (minD x xs))
    | _ => False)
  | [a, b] => (match a.data, b.data with
    | some (.int i), some (.int j) => Q (iv (if j < i then j else i))
    | _, _ => False)
  | _ => False
def gMax : G1 := fun ts Q => match ts with
  | [a] => (match a.data with
    | some (.list (x :: xs)) => okMM (x :: xs) ∧ Q (pd (maxD x xs))
    | some (.tuple (x :: xs)) => okMM (x :: xs) ∧ Q (pd (maxD x xs))
    | _ => False)
  | [a, b] => (match a.data, b.data with
    | some (.int i), some (.int j) => Q (iv (if j > i then j else i))
    | _, _ => False)
  | _ => False
def okRepr (d : D) : Bool := d.plain && (d.showable && (d.leavesShort 13 && (decide (d.weight ≤ 2 ^ 20) && decide (d.depth ≤ deep))))
def gRepr : G1 := fun ts Q => match ts with
  | [a] => (match a.data with
    | some (.int i) => i.natAbs < 10 ^ 12 ∧ Q (pd (.str (PyData.shown (.int i))))
    | some (.bool b) => Q (pd (.str (PyData.shown (.bool b))))
    | some .none => Q (pd (.str (PyData.shown .none)))
    | some (.str x) => (reprText x).length ≤ sizeLine ∧ Q (pd (.str (PyData.shown (.str x))))
    | some d => okRepr d = true ∧ Q (pd (.str d.shown))
    | none => False)
  | _ => False
section
variable {X : Cx} {hv : Hv}
theorem ress1 {c : Cfg} {hd : Hd} {P : Pd} {H0 H : Hp} {vs : List V} {t : TV} (h : Ress c hd P H0 H vs [t]) : ∃ v, vs = [v] ∧ Res c hd P H0 H v t := by
  cases h with
  | cons r rr => cases rr; exact ⟨_, rfl, r⟩
theorem ress2 {c : Cfg} {hd : Hd} {P : Pd} {H0 H : Hp} {vs : List V} {t u : TV} (h : Ress c hd P H0 H vs [t, u]) : ∃ v w, vs = [v, w] ∧ Res c hd P H0 H v t ∧ Res c hd P H0 H w u := by
  cases h with
  | cons r rr =>
    cases rr with
    | cons r2 rr => cases rr; exact ⟨_, _, rfl, r, r2⟩
theorem cd_abs : CallR X (.builtin "abs") (rDC ⟨X.K, hv⟩ gAbs) := by
  intro pins s σ H xs us Q I r ⟨hd, P, H0, ts, Q0, j, rs, q, k⟩
  unfold gAbs at q
  split at q
  · obtain ⟨v, rfl, r1⟩ := ress1 rs
    split at q
    · rename_i i e1
      rw [r1.int e1] at r
      exact call_abs pins s σ H _ us Q I r ⟨_, rfl, k _ q _ P H j.refl (Rep.int _)⟩
    · exact q.elim
  · exact q.elim
theorem cd_int : CallR X (.type "int") (rDC ⟨X.K, hv⟩ gInt) := by
  intro pins s σ H xs us Q I r ⟨hd, P, H0, ts, Q0, j, rs, q, k⟩
  unfold gInt at q
  split at q
  · obtain ⟨v, rfl, r1⟩ := ress1 rs
    split at q
    · rename_i i e1
      rw [r1.int e1] at r
      exact call_int1 pins s σ H _ us Q I r (.inl ⟨_, rfl, k _ q _ P H j.refl (Rep.int _)⟩)
    · rename_i i e1
      rw [r1.bl e1] at r
      exact call_int1 pins s σ H _ us Q I r (.inr ⟨_, rfl, k _ q _ P H j.refl (Rep.int _)⟩)
    · exact q.elim
  · exact q.elim
theorem cd_tuple : CallR X (.type "tuple") (rDC ⟨X.K, hv⟩ gTuple) := by
  intro pins s σ H xs us Q I r ⟨hd, P, H0, ts, Q0, j, rs, q, k⟩
  unfold gTuple at q
  split at q
  · obtain ⟨v, rfl, r1⟩ := ress1 rs
    split at q
    · rename_i i e1
      obtain ⟨p, vs, rfl, h1, q1⟩ := r1.lst e1
      exact call_tuple_of pins s σ H _ us Q I r ⟨_, _, rfl, .inl ⟨SqL.of h1, new_tup j q1 (k _ q)⟩⟩
    · rename_i i e1
      obtain ⟨p, vs, rfl, h1, q1⟩ := r1.tup e1
      exact call_tuple_of pins s σ H _ us Q I r ⟨_, _, rfl, .inr ⟨SqT.of h1, k _ q _ P H j.refl (Rep.tup h1 q1)⟩⟩
    · exact q.elim
  · exact q.elim
theorem cd_list : CallR X (.type "list") (rDC ⟨X.K, hv⟩ gList) := by
  intro pins s σ H xs us Q I r ⟨hd, P, H0, ts, Q0, j, rs, q, k⟩
  unfold gList at q
  split at q
  · obtain ⟨v, rfl, r1⟩ := ress1 rs
    split at q
    · rename_i i e1
      obtain ⟨p, vs, rfl, h1, q1⟩ := r1.lst e1
      exact call_list_of pins s σ H _ us Q I r ⟨_, _, rfl, .inl (SqL.of h1), new_lst j q1 (k _ q)⟩
    · rename_i i e1
      obtain ⟨p, vs, rfl, h1, q1⟩ := r1.tup e1
      exact call_list_of pins s σ H _ us Q I r ⟨_, _, rfl, .inr (SqT.of h1), new_lst j q1 (k _ q)⟩
    · exact q.elim
  · exact q.elim
theorem cd_all (hc : X.calm = true) : CallR X (.builtin "all") (rDC ⟨X.K, hv⟩ gAll) := by
  intro pins s σ H xs us Q I r ⟨hd, P, H0, ts, Q0, j, rs, q, k⟩
  unfold gAll at q
  split at q
  · obtain ⟨v, rfl, r1⟩ := ress1 rs
    split at q
    · rename_i i e1
      obtain ⟨bs, e2, q9⟩ := of_onS q
      have e3 := blsOf_ok e2
      subst e3
      obtain ⟨p, vs, rfl, h1, q1⟩ := r1.lst e1
      rw [Reps.blsOf q1] at h1
      exact cr_all hc pins s σ H _ us Q I r ⟨_, bs, rfl, SqL.of h1, k _ q9 _ P H j.refl (Rep.bl _)⟩
    · exact q.elim
  · exact q.elim
theorem cd_any (hc : X.calm = true) : CallR X (.builtin "any") (rDC ⟨X.K, hv⟩ gAny) := by
  intro pins s σ H xs us Q I r ⟨hd, P, H0, ts, Q0, j, rs, q, k⟩
  unfold gAny at q
  split at q
  · obtain ⟨v, rfl, r1⟩ := ress1 rs
    split at q
    · rename_i i e1
      obtain ⟨bs, e2, q9⟩ := of_onS q
      have e3 := blsOf_ok e2
      subst e3
      obtain ⟨p, vs, rfl, h1, q1⟩ := r1.lst e1
      rw [Reps.blsOf q1] at h1
      exact cr_any hc pins s σ H _ us Q I r ⟨_, bs, rfl, SqL.of h1, k _ q9 _ P H j.refl (Rep.bl _)⟩
    · exact q.elim
  · exact q.elim
theorem cd_sum (hc : X.calm = true) : CallR X (.builtin "sum") (rDC ⟨X.K, hv⟩ gSum) := by
  intro pins s σ H xs us Q I r ⟨hd, P, H0, ts, Q0, j, rs, q, k⟩
  unfold gSum at q
  split at q
  · obtain ⟨v, rfl, r1⟩ := ress1 rs
    split at q
    · rename_i i e1
      obtain ⟨bs, e2, q9⟩ := of_onS q
      have e3 := intsOf_ok e2
      subst e3
      obtain ⟨p, vs, rfl, h1, q1⟩ := r1.lst e1
      rw [Reps.intsOf q1] at h1
      exact cr_sum hc pins s σ H _ us Q I r ⟨_, bs, rfl, SqL.of h1, k _ q9 _ P H j.refl (Rep.int _)⟩
    · exact q.elim
  · exact q.elim
theorem cd_len : CallR X (.builtin "len") (rDC ⟨X.K, hv⟩ gLen) := by
  intro pins s σ H xs us Q I r ⟨hd, P, H0, ts, Q0, j, rs, q, k⟩
  unfold gLen at q
  split at q
  · obtain ⟨v, rfl, r1⟩ := ress1 rs
    split at q
    · rename_i i e1
      rw [r1.str e1] at r
      exact call_len pins s σ H _ us Q I r ⟨_, _, rfl, ⟨q.1, rfl⟩, k _ q.2 _ P H j.refl (Rep.int _)⟩
    · rename_i i e1
      obtain ⟨p, vs, rfl, h1, q1⟩ := r1.lst e1
      exact call_len pins s σ H _ us Q I r ⟨_, _, rfl, .inl ⟨vs, SqL.of h1, rfl⟩, k _ q _ P H j.refl (by rw [q1.length]; exact Rep.int _)⟩
    · rename_i i e1
      obtain ⟨p, vs, rfl, h1, q1⟩ := r1.tup e1
      exact call_len pins s σ H _ us Q I r ⟨_, _, rfl, .inr ⟨vs, SqT.of h1, rfl⟩, k _ q _ P H j.refl (by rw [q1.length]; exact Rep.int _)⟩
    · rename_i kvs e1
      obtain ⟨p, rfl, hdc⟩ := r1.dct e1
      cases r with
      | cons ra rr =>
        cases ra
        cases rr
        rcases hdc with ⟨l, h1, h2, h3⟩ | ⟨l, h1, h2, h3⟩
        · refine d_len I (.inl h1) fun t' s' I' => ⟨.int _, H, I', ⟨_, rfl⟩, k _ q _ P H j.refl ?_⟩
          have e : l.length = kvs.length := by have := congrArg List.length h2; simpa using this.symm
          rw [e]; exact Rep.int _
        · have e : l.length = kvs.length := by have := congrArg List.length h2; simpa using this.symm
          exact call_len_dT pins s σ H [V.ref p] [Value.ref p] Q I (.cons rfl .nil) ⟨p, l, rfl, h1, k _ q _ P H j.refl (by rw [e]; exact Rep.int _)⟩
    · exact q.elim
  · exact q.elim
theorem rep_back {K : PySem.W.Frag} {P : Pd} {H : Hp} {vs : List V} {ds : List D} (r : Reps K P H vs ds) {us : List Value} (ru : Vals vs us) {i : Nat} {u : Value} (h : us[i]? = some u) : ∃ v d, RelV v u ∧ ds[i]? = some d ∧ Rep K P H v d := by
  have hl := ru.length
  have hi := (List.getElem?_eq_some_iff.mp h).1
  have e : vs[i]? = some (vs[i]'(by omega)) := List.getElem?_eq_getElem (by omega)
  obtain ⟨d, h1, h2⟩ := r.get e
  obtain ⟨u', h3, h4⟩ := ru.get e
  rw [h] at h3; cases h3
  exact ⟨_, d, h4, h1, h2⟩
end
end DL

namespace DL
open PySem PySem.Spec PyProof.Rows L2 PySem.W

section
variable {X : Cx} {hv : Hv}
theorem minD_mem : ∀ (xs : List D) (x : D), minD x xs ∈ x :: xs
  | [], x => by simp [minD]
  | y :: ys, x => by
    have e : minD x (y :: ys) = minD (if dataLt y x then y else x) ys := rfl
    rw [e]
    rcases List.mem_cons.mp (minD_mem ys (if dataLt y x then y else x)) with h | h
    · rw [h]
      split
      · simp
      · simp
    · exact List.mem_cons_of_mem _ (List.mem_cons_of_mem _ h)
theorem maxD_mem : ∀ (xs : List D) (x : D), maxD x xs ∈ x :: xs
  | [], x => by simp [maxD]
  | y :: ys, x => by
    have e : maxD x (y :: ys) = maxD (if dataLt x y then y else x) ys := rfl
    rw [e]
    rcases List.mem_cons.mp (maxD_mem ys (if dataLt x y then y else x)) with h | h
    · rw [h]
      split
      · simp
      · simp
    · exact List.mem_cons_of_mem _ (List.mem_cons_of_mem _ h)
theorem plain_of_mem : ∀ {ds : List D} {d : D}, PyData.plainAll ds = true → d ∈ ds → d.plain = true
  | [], _, _, h => by cases h
  | a :: r, d, p, h => by
    have p' := (by simpa [PyData.plainAll] using p : PyData.plain _ = true ∧ PyData.plainAll _ = true)
    rcases List.mem_cons.mp h with h | h
    · rw [h]; exact p'.1
    · exact plain_of_mem p'.2 h
/-- the item that the least or the greatest is -/
theorem item_is {pins : List (Addr × Obj)} {σ : L2.St} {H : Hp} {s : Shared} {P : Pd} {vs : List V} {ds : List D} {us : List Value} (I : Inv X pins σ H s) (r : Reps X.K P H vs ds) (ru : Vals vs us) (pa : PyData.plainAll ds = true) {i : Nat} {u : Value} (hu : us[i]? = some u)
    {m : D} {h' : Heap} {tk : Nat} {bs : List Addr} (k : ∀ b o, s.heap.get? b = some o → h'.get? b = some o) (rm : Reads h' u m bs) : ∃ v, RelV v u ∧ Rep X.K P H v m := by
  obtain ⟨v, d, h1, h2, h3⟩ := rep_back r ru hu
  have pd' := plain_of_mem pa (List.mem_of_getElem? h2)
  obtain ⟨as, q⟩ := rep_reads (I.kept (h' := h') (t' := tk) k) h3 pd' h1
  have e := SeqAt.plain_unique d m u as bs pd' q rm
  exact ⟨v, h1, e ▸ h3⟩
theorem cd_min (hc : X.calm = true) (hu : X.A.units + 64 < cLine) : CallR X (.builtin "min") (rDC ⟨X.K, hv⟩ gMin) := by
  intro pins s σ H xs us Q I r ⟨hd, P, H0, ts, Q0, j, rs, q, k⟩
  unfold gMin at q
  split at q
  · obtain ⟨v, rfl, r1⟩ := ress1 rs
    split at q
    · rename_i x xs e1
      obtain ⟨p, vs, rfl, h1, q1⟩ := r1.lst e1
      obtain ⟨⟨qa, qp, qd⟩, q⟩ := q
      cases r with
      | cons ra rr =>
        cases ra
        cases rr
        obtain ⟨its, rv, pl, hz⟩ := I.list (SqL.of h1)
        obtain ⟨as, hr⟩ := reps_reads I q1 qp rv
        refine min_list_data (I.ok.hd hc) pl.isList (by simpa using hr) qa (by have h : _ ≤ 60 := qd; omega) fun i v h' tk bs hv' hm hk => ?_
        obtain ⟨w, h5, h6⟩ := item_is I q1 rv qp (by simpa using hv') (tk := tk) hk hm
        exact ⟨w, H, I.kept hk, h5, k _ q _ P H j.refl h6⟩
    · rename_i x xs e1
      obtain ⟨p, vs, rfl, h1, q1⟩ := r1.tup e1
      obtain ⟨⟨qa, qp, qd⟩, q⟩ := q
      cases r with
      | cons ra rr =>
        cases ra
        cases rr
        obtain ⟨its, rv, pl, hz⟩ := I.tuple (SqT.of h1)
        obtain ⟨as, hr⟩ := reps_reads I q1 qp rv
        refine min_tuple_data (I.ok.hd hc) (show s.heap.IsTuple p its.toArray from pl) (by simpa using hr) qa (by have h : _ ≤ 60 := qd; omega) fun i v h' tk bs hv' hm hk => ?_
        obtain ⟨w, h5, h6⟩ := item_is I q1 rv qp (by simpa using hv') (tk := tk) hk hm
        exact ⟨w, H, I.kept hk, h5, k _ q _ P H j.refl h6⟩
    · exact q.elim
  · obtain ⟨v, w, rfl, r1, r2⟩ := ress2 rs
    split at q
    · rename_i i i' e1 e2
      rw [r1.int e1, r2.int e2] at r
      exact call_min2 hc pins s σ H _ us Q I r ⟨_, _, rfl, k _ q _ P H j.refl (Rep.int _)⟩
    · exact q.elim
  · exact q.elim
theorem cd_max (hc : X.calm = true) (hu : X.A.units + 64 < cLine) : CallR X (.builtin "max") (rDC ⟨X.K, hv⟩ gMax) := by
  intro pins s σ H xs us Q I r ⟨hd, P, H0, ts, Q0, j, rs, q, k⟩
  unfold gMax at q
  split at q
  · obtain ⟨v, rfl, r1⟩ := ress1 rs
    split at q
    · rename_i x xs e1
      obtain ⟨p, vs, rfl, h1, q1⟩ := r1.lst e1
      obtain ⟨⟨qa, qp, qd⟩, q⟩ := q
      cases r with
      | cons ra rr =>
        cases ra
        cases rr
        obtain ⟨its, rv, pl, hz⟩ := I.list (SqL.of h1)
        obtain ⟨as, hr⟩ := reps_reads I q1 qp rv
        refine max_list_data (I.ok.hd hc) pl.isList (by simpa using hr) qa (by have h : _ ≤ 60 := qd; omega) fun i v h' tk bs hv' hm hk => ?_
        obtain ⟨w, h5, h6⟩ := item_is I q1 rv qp (by simpa using hv') (tk := tk) hk hm
        exact ⟨w, H, I.kept hk, h5, k _ q _ P H j.refl h6⟩
    · rename_i x xs e1
      obtain ⟨p, vs, rfl, h1, q1⟩ := r1.tup e1
      obtain ⟨⟨qa, qp, qd⟩, q⟩ := q
      cases r with
      | cons ra rr =>
        cases ra
        cases rr
        obtain ⟨its, rv, pl, hz⟩ := I.tuple (SqT.of h1)
        obtain ⟨as, hr⟩ := reps_reads I q1 qp rv
        refine max_tuple_data (I.ok.hd hc) (show s.heap.IsTuple p its.toArray from pl) (by simpa using hr) qa (by have h : _ ≤ 60 := qd; omega) fun i v h' tk bs hv' hm hk => ?_
        obtain ⟨w, h5, h6⟩ := item_is I q1 rv qp (by simpa using hv') (tk := tk) hk hm
        exact ⟨w, H, I.kept hk, h5, k _ q _ P H j.refl h6⟩
    · exact q.elim
  · obtain ⟨v, w, rfl, r1, r2⟩ := ress2 rs
    split at q
    · rename_i i i' e1 e2
      rw [r1.int e1, r2.int e2] at r
      exact call_max2 hc pins s σ H _ us Q I r ⟨_, _, rfl, k _ q _ P H j.refl (Rep.int _)⟩
    · exact q.elim
  · exact q.elim
theorem noDict_of_plain : ∀ {d : D}, d.plain = true → d.hasDict = false := by
  intro d h
  exact (PyData.rec (motive_1 := fun d => d.plain = true → d.hasDict = false) (motive_2 := fun ds => PyData.plainAll ds = true → PyData.hasDictAll ds = false) (motive_3 := fun _ => True) (motive_4 := fun _ => True)
    (fun _ => rfl) (fun _ _ => rfl) (fun _ _ => rfl) (fun _ _ => rfl) (fun xs ih h => by simpa [PyData.hasDict] using ih (by simpa [PyData.plain] using h)) (fun xs ih h => by simpa [PyData.hasDict] using ih (by simpa [PyData.plain] using h)) (fun _ _ h => by simp [PyData.plain] at h)
    (fun _ => rfl) (fun a r iha ihr h => by
      have h' := (by simpa [PyData.plainAll] using h : PyData.plain _ = true ∧ PyData.plainAll _ = true)
      simp [PyData.hasDictAll, iha h'.1, ihr h'.2]) trivial (fun _ _ _ _ => trivial) (fun _ _ _ _ => trivial) d) h
theorem shown_fits' {d : D} (h : okRepr d = true) : d.shown.length ≤ sizeLine := by
  simp only [okRepr, Bool.and_eq_true, decide_eq_true_eq] at h
  exact PyData.shown_fits (B := 13) (by decide) (by decide) h.2.2.1 h.2.2.2.1
theorem cd_repr (hgd : X.A.guards = some []) (hu : X.A.units + 64 < cLine) : CallR X (.builtin "repr") (rDC ⟨X.K, hv⟩ gRepr) := by
  intro pins s σ H xs us Q I r ⟨hd, P, H0, ts, Q0, j, rs, q, k⟩
  unfold gRepr at q
  split at q
  · obtain ⟨v, rfl, r1⟩ := ress1 rs
    cases r with
    | cons ra rr =>
      cases rr
      split at q
      · rename_i i e1
        rw [r1.int e1] at ra
        obtain ⟨t, rfl⟩ := ra
        refine PySem.P.repr_of_int ?_ ⟨.str _, H, I.tok _, ⟨_, rfl⟩, k _ q.2 _ P H j.refl (Rep.str _)⟩
        have h9 := q.1
        have h10 : i.natAbs < 2 ^ 40 := by omega
        exact Nat.lt_of_lt_of_le (PySem.Flt.log2_lt_of (by decide) h10) (by decide)
      · rename_i i e1
        rw [r1.bl e1] at ra
        cases ra
        exact PySem.P.repr_of_bool ⟨.str _, H, I.tok _, ⟨_, rfl⟩, k _ q _ P H j.refl (Rep.str _)⟩
      · rename_i e1
        rw [r1.non e1] at ra
        cases ra
        exact PySem.P.repr_of_none ⟨.str _, H, I.tok _, ⟨_, rfl⟩, k _ q _ P H j.refl (Rep.str _)⟩
      · rename_i z e1
        rw [r1.str e1] at ra
        obtain ⟨t, rfl⟩ := ra
        exact PySem.P.repr_of_str ⟨.str _, H, I.tok _, ⟨_, rfl⟩, k _ q.2 _ P H j.refl (Rep.str _)⟩ q.1
      · rename_i d n1 n2 n3 n4 e1
        have ho := q.1
        simp only [okRepr, Bool.and_eq_true, decide_eq_true_eq] at ho
        obtain ⟨as, hr⟩ := rep_reads I (r1.rep e1) ho.1 ra
        have hdep : d.depth ≤ 60 := ho.2.2.2.2
        obtain ⟨a, rfl⟩ : ∃ a, v = .ref a := by
          have := r1.rep e1
          cases this with
          | non => exact absurd rfl n3
          | bl b => exact absurd rfl (n2 b)
          | int i => exact absurd rfl (n1 i)
          | str x => exact absurd rfl (n4 x)
          | lst => exact ⟨_, rfl⟩
          | tup => exact ⟨_, rfl⟩
          | dK => exact ⟨_, rfl⟩
          | dT => exact ⟨_, rfl⟩
        cases ra
        exact repr_of_reads' hr ho.2.1 (fun z => by rw [noDict_of_plain ho.1] at z; cases z) hgd (by omega) (fun _ _ z => z) (fun h' u tk hk => ⟨.str _, H, I.kept hk, ⟨_, rfl⟩, k _ q.2 _ P H j.refl (Rep.str _)⟩) (shown_fits' q.1)
      · exact q.elim
  · exact q.elim
end
end DL

namespace DL
open PySem PySem.Spec PyProof.Rows L2 PySem.W

/-! ### sorted, isinstance -/
def sortD (ds : List D) : List D := ds.mergeSort (dataLe false fun d => d)
def okSort (ds : List D) : Prop := AllAlike ds ∧ Sortable ds ∧ PyData.plainAll ds = true ∧ PyData.depthAll ds ≤ deep ∧ ds.length ≤ sizeLine
def gSorted : G1 := fun ts Q => match ts with
  | [a] => (match a.data with
    | some (.list xs) => okSort xs ∧ Q (.fr (sortD xs))
    | _ => False)
  | _ => False
theorem each_vals {K : PySem.W.Frag} {P : Pd} {H : Hp} : ∀ {vs : List V} {ds : List D} {us : List Value}, Reps K P H vs ds → Vals vs us → EachIs (fun (u : Value) (b : V × D) => RelV b.1 u ∧ Rep K P H b.1 b.2) us (vs.zip ds)
  | _, _, _, .nil, .nil => .nil
  | _, _, _, .cons r rs, .cons q qs => .cons ⟨q, r⟩ (each_vals rs qs)
theorem vals_each {K : PySem.W.Frag} {P : Pd} {H : Hp} : ∀ {us : List Value} {bs : List (V × D)}, EachIs (fun (u : Value) (b : V × D) => RelV b.1 u ∧ Rep K P H b.1 b.2) us bs → Vals (bs.map Prod.fst) us ∧ Reps K P H (bs.map Prod.fst) (bs.map Prod.snd)
  | _, _, .nil => ⟨.nil, .nil⟩
  | _, _, .cons q qs => ⟨.cons q.1 (vals_each qs).1, .cons q.2 (vals_each qs).2⟩
theorem depth_mem : ∀ {ds : List D} {d : D}, d ∈ ds → d.depth ≤ PyData.depthAll ds
  | [], _, h => by cases h
  | a :: r, d, h => by
    rw [PyData.depthAll]
    rcases List.mem_cons.mp h with h | h
    · rw [h]; exact Nat.le_max_left _ _
    · exact Nat.le_trans (depth_mem h) (Nat.le_max_right _ _)
section
variable {X : Cx} {hv : Hv}
theorem EachIs.mp {α β : Type} {R S : α → β → Prop} (k : ∀ a b, b ∈ ([] : List β) ∨ True → R a b → S a b) : ∀ {as : List α} {bs : List β}, EachIs R as bs → EachIs S as bs
  | _, _, .nil => .nil
  | _, _, .cons h t => .cons (k _ _ (.inr trivial) h) (EachIs.mp k t)
theorem each_reads {pins : List (Addr × Obj)} {σ : L2.St} {H : Hp} {s : Shared} {P : Pd} (I : Inv X pins σ H s) : ∀ {us : List Value} {vs : List V} {ds : List D}, Reps X.K P H vs ds → Vals vs us → PyData.plainAll ds = true → EachIs (fun (u : Value) (b : V × D) => ∃ as, Reads s.heap u b.2 as) us (vs.zip ds)
  | _, _, _, .nil, .nil, _ => .nil
  | _, _, _, .cons r rs, .cons q qs, pp => by
    have p' := (by simpa [PyData.plainAll] using pp : PyData.plain _ = true ∧ PyData.plainAll _ = true)
    exact .cons (rep_reads I r p'.1 q) (each_reads I rs qs p'.2)
theorem cd_sorted (hu : X.A.units + 80 < cLine) : CallR X (.builtin "sorted") (rDC ⟨X.K, hv⟩ gSorted) := by
  intro pins s σ H xs us Q I r ⟨hd, P, H0, ts, Q0, j, rs, q, k⟩
  unfold gSorted at q
  split at q
  · obtain ⟨v, rfl, r1⟩ := ress1 rs
    split at q
    · rename_i ds e1
      obtain ⟨p, vs, rfl, h1, q1⟩ := r1.lst e1
      obtain ⟨⟨qa, qs, qp, qd, ql⟩, q⟩ := q
      cases r with
      | cons ra rr =>
        cases ra
        cases rr
        obtain ⟨its, rv, pl, hz⟩ := I.list (SqL.of h1)
        have hlen := q1.length
        have em : (vs.zip ds).map Prod.snd = ds := List.map_snd_zip (by omega)
        have e := each_vals q1 rv
        have h64 : (vs.zip ds).length ≤ sizeLine := by rw [List.length_zip]; omega
        refine sorted_data (R := fun (u : Value) (b : V × D) => RelV b.1 u ∧ Rep X.K P H b.1 b.2) (enc := fun b : V × D => b.2) pl.isList e (each_reads I q1 rv qp) (by rw [show (fun b : V × D => b.2) = Prod.snd from rfl, em]; exact qa) (by rw [show (fun b : V × D => b.2) = Prod.snd from rfl, em]; exact qs) h64
          (fun b hb => ?_) fun out ho1 ho2 => ?_
        · have hb2 : b.2 ∈ ds := (List.of_mem_zip hb).2
          have h3 := depth_mem hb2
          have h4 : PyData.depthAll ds ≤ 60 := qd
          omega
        · obtain ⟨v1, r3⟩ := vals_each ho2
          have es : ((vs.zip ds).mergeSort (dataLe false fun b : V × D => b.2)).map Prod.snd = sortD ds := by
            have e3 := sort_maps (r := dataLe false fun b : V × D => b.2) (s := dataLe false fun d : D => d) Prod.snd (l := vs.zip ds) (fun _ _ _ _ => rfl)
            rw [em] at e3
            exact e3
          obtain ⟨ep, he'⟩ := PyProof.Rows.sortedAll_at s.heap its (List.toArray out)
          have hl2 : ((((vs.zip ds).mergeSort (dataLe false fun b : V × D => b.2)).map Prod.fst).length) ≤ sizeLine := by rw [List.length_map, List.length_mergeSort]; exact h64
          rw [es] at r3
          have hf := I.hok.fresh (Nat.le_succ s.heap.objs.size)
          exact ⟨.ref (s.heap.objs.size + 1), _, I.laid (a := s.heap.objs.size + 1) (o := .lst (((vs.zip ds).mergeSort (dataLe false fun b : V × D => b.2)).map Prod.fst)) (t' := s.toks) (fun _ _ => PyProof.Rows.sortedAll_old) (Nat.le_succ _) ⟨hl2, out, ep, v1, by simpa using he'⟩, rfl, new_lst j r3 (k _ q) _ hf⟩
    · exact q.elim
  · exact q.elim
/-- isinstance(e, T), T a built-in class -/
def dIsi (f : D → Bool) (fe : FE) : FE := fun γ Q => fe γ fun t => onS t.data fun d => d.plain = true ∧ Q (bv (f d))
def IsiR (X : Cx) (T : String) (f : D → Bool) : Prop := ∀ (s : Shared) (v : Value) (d : D) (as : List Addr) (Q : Value → Shared → Prop), Reads s.heap v d as → (∀ tk, Q (.bool (f d)) { s with toks := tk }) → wpAny (model X.prog X.w) X.A (call (.builtin "isinstance") [v, .type T]) Q X.xe s
theorem isi_int : IsiR X "int" PyData.isInt := fun s v d as Q r h => isinstance_int_data r fun tk _ => h tk
theorem isi_bool : IsiR X "bool" PyData.isBool := fun s v d as Q r h => isinstance_bool_data r fun tk _ => h tk
theorem isi_str : IsiR X "str" PyData.isStr := fun s v d as Q r h => isinstance_str_data r fun tk _ => h tk
theorem isi_list : IsiR X "list" PyData.isList := fun s v d as Q r h => isinstance_list_data r fun tk _ => h tk
theorem isi_tuple : IsiR X "tuple" PyData.isTuple := fun s v d as Q r h => isinstance_tuple_data r fun tk _ => h tk
theorem isi_dict : IsiR X "dict" PyData.isDict := fun s v d as Q r h => isinstance_dict_data r fun tk _ => h tk
variable {e : Expr} {fe : FE} {p p2 pos : Pos} {x : Str} {T : String} {f : D → Bool}
theorem de_isi (hT : IsiR X T f) (hm : X.mg "isinstance" = none) (hm2 : X.mg x = none) (hb : bootBuiltins x = some (.type T)) (he : DE hv X e fe) (hg : Gl X "isinstance" := by rfl) (hg2 : Gl X x := by rfl) (hn : x ≠ "__name__" := by decide) (hdb : (x == ("__debug__" : Str)) = false := by decide)
    (hs : starEach (e :: [.Name x p2]) X.env = (false, eval e X.env) :: starEach [.Name x p2] X.env := by rfl) (hpl : (backTo pos (starEach [.Name x p2] X.env)).any (·.1) = false := by rfl) : DE hv X (.Call (.Name "isinstance" p) [e, .Name x p2] [] pos) (dIsi f fe) := by
  have hc : CallR X (.builtin "isinstance") (fun xs H Q => ∃ v d, xs = [v, .ty T] ∧ Rep X.K TrueP H v d ∧ d.plain = true ∧ Q (.bl (f d)) H) := by
    intro pins s σ H xs us Q I r ⟨v, d, e1, rd, pd', q⟩
    subst e1
    cases r with
    | cons ra rr =>
      cases rr with
      | cons rb rr =>
        cases rr
        cases rb
        obtain ⟨as, q1⟩ := rep_reads I rd pd' ra
        exact hT s _ d as _ q1 fun tk => ⟨.bl _, H, I.tok _, rfl, q⟩
  refine pe_imp (pe_callB hc hg hm PyProof.Rows.boot_isinstance (pa_cons he (pa_cons (pe_bltn (v := .ty T) hg2 hm2 hb rfl hn hdb) pa_nil) hs) (by decide) (by decide) hs hpl) fun σ H Q ⟨γ, hd, P, Q0, S, ff, k⟩ => ?_
  refine ⟨γ, hd, P, _, S, ff, fun t q v hd1 P1 H1 g1 r1 => ?_⟩
  obtain ⟨d, e1, hp, q⟩ := of_onS q
  exact ⟨v, d, rfl, r1.rep e1, hp, k _ q _ hd1 P1 H1 g1 (Rep.bl _)⟩
end
end DL

namespace DL
open PySem PySem.Spec PyProof.Rows L2 PySem.W

/-! ### statements -/
structure DK where
  nx : Gam → Prop
  rt : TV → Prop
  bk : Gam → Prop := fun _ => False
  ct : Gam → Prop := fun _ => False
abbrev FS := Gam → DK → Prop
/-- how a def was entered -/
structure Ent where
  hd : Hd
  P : Pd
  H : Hp
structure StF (c : Cfg) (F : Ent) (γ : Gam) (σ : L2.St) (hd : Hd) (P : Pd) (H : Hp) : Prop where
  s : Sta c γ σ hd P H
  g : Grow c F.hd F.P F.H hd P H
  j0 : J c F.hd F.P F.H
  fr : ∀ (i : Nat) s p, γ[i]? = some s → s.own = true → σ[i]? = some (some (.ref p)) → F.H p = none
/-- what may be leant on behind a statement: P has grown, nothing of it has changed -/
abbrev Evo (c : Cfg) (P : Pd) (H : Hp) (P' : Pd) (H' : Hp) : Prop := Kept c.K P H P' H'
theorem Kept.trans {K : PySem.W.Frag} {P P' P2 : Pd} {H H' H2 : Hp} (a : Kept K P H P' H') (b : Kept K P' H' P2 H2) : Kept K P H P2 H2 :=
  ⟨fun x h => b.sub x (a.sub x h), fun x o h p => b.at_ x o (a.at_ x o h p) (a.sub x p), fun x xs h => b.tup x xs (a.tup x xs h)⟩
theorem Kept.refl {K : PySem.W.Frag} {P : Pd} {H : Hp} : Kept K P H P H := ⟨fun _ h => h, fun _ _ h _ => h, fun _ _ h => h⟩
structure EndsOk (c : Cfg) (F : Ent) (P : Pd) (H : Hp) (K0 : DK) (D : Ends) : Prop where
  nx : ∀ γ', K0.nx γ' → ∀ σ' hd' P' H', StF c F γ' σ' hd' P' H' → Evo c P H P' H' → D.nx σ' H'
  bk : ∀ γ', K0.bk γ' → ∀ σ' hd' P' H', StF c F γ' σ' hd' P' H' → Evo c P H P' H' → D.bk σ' H'
  ct : ∀ γ', K0.ct γ' → ∀ σ' hd' P' H', StF c F γ' σ' hd' P' H' → Evo c P H P' H' → D.ct σ' H'
  rt : ∀ t, K0.rt t → ∀ v hd' P' H', Grow c F.hd F.P F.H hd' P' H' → Res c hd' P' F.H H' v t → D.rt v H'
def tDS (c : Cfg) (f : FS) : TS := fun D σ H => ∃ F γ hd P K0, StF c F γ σ hd P H ∧ f γ K0 ∧ EndsOk c F P H K0 D
abbrev DS (hv : Hv) (X : Cx) (st : Stmt) (f : FS) : Prop := PS X st (tDS ⟨X.K, hv⟩ f)
abbrev DSs (hv : Hv) (X : Cx) (st : List Stmt) (f : FS) : Prop := PSs X st (tDS ⟨X.K, hv⟩ f)
section
variable {c : Cfg} {F : Ent} {γ : Gam} {σ : L2.St} {hd hd' : Hd} {P P' : Pd} {H H' : Hp} {K0 : DK} {D : Ends}
theorem EndsOk.later (e : EndsOk c F P H K0 D) (k : Kept c.K P H P' H') : EndsOk c F P' H' K0 D :=
  ⟨fun γ' q σ' hd2 P2 H2 s v => e.nx γ' q σ' hd2 P2 H2 s (k.trans v), fun γ' q σ' hd2 P2 H2 s v => e.bk γ' q σ' hd2 P2 H2 s (k.trans v), fun γ' q σ' hd2 P2 H2 s v => e.ct γ' q σ' hd2 P2 H2 s (k.trans v), e.rt⟩
theorem StF.grow (S : StF c F γ σ hd P H) (g : Grow c hd P H hd' P' H') : StF c F γ σ hd' P' H' := ⟨S.s.grow g, S.g.trans S.j0 g, S.j0, S.fr⟩
theorem StF.setPl (S : StF c F γ σ hd P H) (i : Nat) {v : V} {r : RV} (h : RepV c hd P H v r) : StF c F (γ.set i (.pl r)) (σ.set i (some v)) hd P H :=
  ⟨S.s.setPl i h, S.g, S.j0, fun k s p e o q => by
    by_cases hk : i = k
    · subst hk
      by_cases hl : i < γ.length
      · rw [List.getElem?_set_self hl] at e; cases e; cases o
      · rw [List.getElem?_eq_none (by rw [List.length_set]; omega)] at e; cases e
    · rw [List.getElem?_set_ne hk] at e q
      exact S.fr k s p e o q⟩
/-- an own thing comes into a slot -/
theorem Sta.setOwn (S : Sta c γ σ hd P H) (i : Nat) {p : Addr} {sl : Sl} (ho : sl.own = true) (n : ¬ hdA hd p) (np : ¬ P p)
    (hl : ∀ ds, sl = .ol ds → ∃ vs, H p = some (.lst vs) ∧ Reps c.K P H vs ds) (hd' : ∀ kvs, sl = .od kvs → DcAt c.K P H p kvs)
    (ap : ∀ (k : Nat) s, k ≠ i → γ[k]? = some s → s.own = true → σ[k]? ≠ some (some (.ref p))) : Sta c (γ.set i sl) (σ.set i (some (.ref p))) hd P H where
  len := by rw [List.length_set, List.length_set]; exact S.len
  pl := fun k r' e => by
    by_cases hk : i = k
    · subst hk
      by_cases hl : i < γ.length
      · rw [List.getElem?_set_self hl] at e
        cases e; cases ho
      · rw [List.getElem?_eq_none (by rw [List.length_set]; omega)] at e; cases e
    · rw [List.getElem?_set_ne hk] at e ⊢
      exact S.pl k r' e
  ol := fun k ds e => by
    by_cases hk : i = k
    · subst hk
      by_cases hli : i < γ.length
      · rw [List.getElem?_set_self hli] at e
        obtain ⟨vs, h1, h2⟩ := hl ds (Option.some.inj e)
        exact ⟨p, vs, List.getElem?_set_self (by rw [← S.len]; exact hli), n, h1, h2, np⟩
      · rw [List.getElem?_eq_none (by rw [List.length_set]; omega)] at e; cases e
    · rw [List.getElem?_set_ne hk] at e ⊢
      exact S.ol k ds e
  od := fun k ds e => by
    by_cases hk : i = k
    · subst hk
      by_cases hli : i < γ.length
      · rw [List.getElem?_set_self hli] at e
        exact ⟨p, List.getElem?_set_self (by rw [← S.len]; exact hli), n, hd' ds (Option.some.inj e), np⟩
      · rw [List.getElem?_eq_none (by rw [List.length_set]; omega)] at e; cases e
    · rw [List.getElem?_set_ne hk] at e ⊢
      exact S.od k ds e
  dis := fun a b s t q ea eb oa ob ha hb => by
    by_cases hai : i = a
    · by_cases hbi : i = b
      · exact hai.symm.trans hbi
      · subst hai
        have hla : i < σ.length := by
          by_cases z : i < σ.length
          · exact z
          · rw [List.getElem?_eq_none (by rw [List.length_set]; omega)] at ha; cases ha
        rw [List.getElem?_set_self hla] at ha
        cases ha
        rw [List.getElem?_set_ne hbi] at eb hb
        exact absurd hb (ap b t (fun z => hbi z.symm) eb ob)
    · by_cases hbi : i = b
      · subst hbi
        have hlb : i < σ.length := by
          by_cases z : i < σ.length
          · exact z
          · rw [List.getElem?_eq_none (by rw [List.length_set]; omega)] at hb; cases hb
        rw [List.getElem?_set_self hlb] at hb
        cases hb
        rw [List.getElem?_set_ne hai] at ea ha
        exact absurd ha (ap a s (fun z => hai z.symm) ea oa)
      · rw [List.getElem?_set_ne hai] at ea ha
        rw [List.getElem?_set_ne hbi] at eb hb
        exact S.dis a b s t q ea eb oa ob ha hb
  j := S.j
theorem StF.setOwn (S : StF c F γ σ hd P H) (i : Nat) {p : Addr} {sl : Sl} (ho : sl.own = true) (n : ¬ hdA hd p) (np : ¬ P p) (hf : F.H p = none)
    (hl : ∀ ds, sl = .ol ds → ∃ vs, H p = some (.lst vs) ∧ Reps c.K P H vs ds) (hd' : ∀ kvs, sl = .od kvs → DcAt c.K P H p kvs)
    (ap : ∀ (k : Nat) s, k ≠ i → γ[k]? = some s → s.own = true → σ[k]? ≠ some (some (.ref p))) : StF c F (γ.set i sl) (σ.set i (some (.ref p))) hd P H :=
  ⟨S.s.setOwn i ho n np hl hd' ap, S.g, S.j0, fun k s q e o r => by
    by_cases hk : i = k
    · subst hk
      have hla : i < σ.length := by
        by_cases z : i < σ.length
        · exact z
        · rw [List.getElem?_eq_none (by rw [List.length_set]; omega)] at r; cases r
      rw [List.getElem?_set_self hla] at r
      cases r
      exact hf
    · rw [List.getElem?_set_ne hk] at e r
      exact S.fr k s q e o r⟩
/-- a new thing's address is no own slot's -/
theorem Sta.apart (S : Sta c γ σ hd P H) {p : Addr} (hp : H p = none) : ∀ (k : Nat) s, γ[k]? = some s → s.own = true → σ[k]? ≠ some (some (.ref p)) := fun k s e o r => by
  cases s with
  | non => cases o
  | pl r => cases o
  | ol ds =>
    obtain ⟨q, vs, h1, _, h2, _⟩ := S.ol k ds e
    rw [h1] at r; cases r
    rw [hp] at h2; cases h2
  | od kvs =>
    obtain ⟨q, h1, _, h2, _⟩ := S.od k kvs e
    rw [h1] at r; cases r
    obtain ⟨o', h3, _⟩ := h2.there
    rw [hp] at h3; cases h3
end
/-- a value comes into a slot: a new list, a new dict is the slot's own -/
def putT (i : Nat) (t : TV) (γ : Gam) : Option Gam := match t with
  | .pl r => some (γ.set i (.pl r))
  | .fr ds => some (γ.set i (.ol ds))
  | .fd kvs => some (γ.set i (.od kvs))
  | _ => none
theorem StF.put {c : Cfg} {F : Ent} {γ γ' : Gam} {σ : L2.St} {hd : Hd} {P : Pd} {H H1 : Hp} (S : StF c F γ σ hd P H) {i : Nat} {v : V} {t : TV} (h : Res c hd P H1 H v t) (e : putT i t γ = some γ')
    (ap : ∀ p, H1 p = none → F.H p = none ∧ ∀ (k : Nat) s, γ[k]? = some s → s.own = true → σ[k]? ≠ some (some (.ref p))) : StF c F γ' (σ.set i (some v)) hd P H := by
  cases t with
  | pl r => cases e; exact S.setPl i h
  | lv ds => cases e
  | dv kvs => cases e
  | fr ds =>
    cases e
    obtain ⟨p, vs, rfl, n, h1, h2, h3, h4⟩ := h
    exact S.setOwn i rfl n h4 (ap p h3).1 (fun ds e => by cases e; exact ⟨vs, h1, h2⟩) (fun kvs e => by cases e) fun k s _ => (ap p h3).2 k s
  | fd kvs =>
    cases e
    obtain ⟨p, rfl, n, h1, h3, h4⟩ := h
    exact S.setOwn i rfl n h4 (ap p h3).1 (fun ds e => by cases e) (fun kvs e => by cases e; exact h1) fun k s _ => (ap p h3).2 k s
theorem StF.apart0 {c : Cfg} {F : Ent} {γ : Gam} {σ : L2.St} {hd : Hd} {P : Pd} {H : Hp} (S : StF c F γ σ hd P H) (p : Addr) (h : H p = none) : F.H p = none ∧ ∀ (k : Nat) s, γ[k]? = some s → s.own = true → σ[k]? ≠ some (some (.ref p)) :=
  ⟨S.g.free S.j0 h, S.s.apart h⟩

def dSkip : FS := fun γ K => K.nx γ
def dSeq2 (f g : FS) : FS := fun γ K => f γ { K with nx := fun γ' => g γ' K }
def dNever : FS := fun _ _ => False
def dPass : FS := fun γ K => K.nx γ
def dBrk : FS := fun γ K => K.bk γ
def dCnt : FS := fun γ K => K.ct γ
def dAsg (i : Nat) (fe : FE) : FS := fun γ K => fe γ fun t => onS (putT i t γ) K.nx
def dExp (fe : FE) : FS := fun γ K => fe γ fun _ => K.nx γ
def dIf (ft : FT) (f g : FS) : FS := fun γ K => ft γ fun b => if b = true then f γ K else g γ K
def dRet (fe : FE) : FS := fun γ K => fe γ K.rt
def dRetN : FS := fun _ K => K.rt (pd .none)
/-- return x -/
def dRetV (i : Nat) : FS := fun γ K => match γ[i]? with
  | some (.pl r) => K.rt (.pl r)
  | some (.ol ds) => K.rt (.fr ds)
  | some (.od kvs) => K.rt (.fd kvs)
  | _ => False
section
variable {X : Cx} {hv : Hv} {pos pos' : Pos} {st : Stmt} {rest as bs : List Stmt} {f g : FS} {fe : FE} {ft : FT} {e c : Expr}
theorem dss_nil : DSs hv X [] dSkip := pss_imp pss_nil fun D σ H ⟨F, γ, hd, P, K0, S, q, ok⟩ => ok.nx γ q σ hd P H S Kept.refl
theorem dss_cons (h1 : DS hv X st f) (h2 : DSs hv X rest g) : DSs hv X (st :: rest) (dSeq2 f g) :=
  pss_imp (pss_cons h1 h2) fun D σ H ⟨F, γ, hd, P, K0, S, q, ok⟩ => ⟨F, γ, hd, P, _, S, q, ⟨fun γ' q' σ' hd' P' H' S' v => ⟨F, γ', hd', P', K0, S', q', ok.later v⟩, ok.bk, ok.ct, ok.rt⟩⟩
theorem dss_one (h1 : DS hv X st f) : DSs hv X [st] f := pss_one h1
theorem ds_never : DS hv X st dNever := ⟨fun _ _ _ _ _ _ ⟨_, _, _, _, _, _, q, _⟩ => q.elim⟩
theorem ds_pass : DS hv X (.Pass pos) dPass := ps_imp ps_pass fun D σ H ⟨F, γ, hd, P, K0, S, q, ok⟩ => ok.nx γ q σ hd P H S Kept.refl
theorem ds_brk : DS hv X (.Break pos) dBrk := ps_imp ps_break fun D σ H ⟨F, γ, hd, P, K0, S, q, ok⟩ => ok.bk γ q σ hd P H S Kept.refl
theorem ds_cnt : DS hv X (.Continue pos) dCnt := ps_imp ps_continue fun D σ H ⟨F, γ, hd, P, K0, S, q, ok⟩ => ok.ct γ q σ hd P H S Kept.refl
theorem ds_asg {i : Nat} {x : Str} (hN : X.N.Nodup) (he : DE hv X e fe) (hi : X.N[i]? = some x := by rfl) (hx : Loc X.env.scope x := by first | exact .inl rfl | exact .inr rfl) (hs : swapsWith e (some (.Name x pos')) pos.line X.env = pure false := by rfl)
    (hf : X.fn x = true ∨ X.env.scope.names.lookup x = some .local := by first | exact .inl rfl | exact .inr rfl) : DS hv X (.Assign [.Name x pos'] e pos) (dAsg i fe) :=
  ps_imp (ps_set hN hi hx he hs hf) fun D σ H ⟨F, γ, hd, P, K0, S, q, ok⟩ => ⟨γ, hd, P, _, S.s, q, fun t qt v hd1 P1 H1 g1 r1 => by
    obtain ⟨γ', e1, q1⟩ := of_onS qt
    exact ok.nx γ' q1 _ hd1 P1 H1 ((S.grow g1).put r1 e1 S.apart0) (g1.kept S.s.j)⟩
theorem ds_exp (he : DE hv X e fe) (hs : swapsWith e none pos.line X.env = pure false := by rfl) : DS hv X (.Expr e pos) (dExp fe) :=
  ps_imp (ps_expr he hs) fun D σ H ⟨F, γ, hd, P, K0, S, q, ok⟩ => ⟨γ, hd, P, _, S.s, q, fun t qt v hd1 P1 H1 g1 r1 => ok.nx γ qt σ hd1 P1 H1 (S.grow g1) (g1.kept S.s.j)⟩
theorem ds_if (hc : DT hv X c ft) (ha : DSs hv X as f) (hb : DSs hv X bs g) : DS hv X (.If c as bs pos) (dIf ft f g) :=
  ps_imp (ps_if hc ha hb) fun D σ H ⟨F, γ, hd, P, K0, S, q, ok⟩ => ⟨γ, hd, P, _, S.s, q, fun b qb hd1 P1 H1 g1 => by
    cases b with
    | true => exact iteT ⟨F, γ, hd1, P1, K0, S.grow g1, qb, ok.later (g1.kept S.s.j)⟩
    | false => exact iteF ⟨F, γ, hd1, P1, K0, S.grow g1, qb, ok.later (g1.kept S.s.j)⟩⟩
theorem ds_ret (he : DE hv X e fe) : DS hv X (.Return (some e) pos) (dRet fe) :=
  ps_imp (ps_ret he) fun D σ H ⟨F, γ, hd, P, K0, S, q, ok⟩ => ⟨γ, hd, P, _, S.s, q, fun t qt v hd1 P1 H1 g1 r1 => ok.rt t qt v hd1 P1 H1 (S.g.trans S.j0 g1) (r1.start fun a h => S.g.free S.j0 h)⟩
theorem ds_retN : DS hv X (.Return none pos) dRetN :=
  ps_imp ps_retN fun D σ H ⟨F, γ, hd, P, K0, S, q, ok⟩ => ok.rt _ q _ hd P H S.g Rep.non
theorem ds_retV {i : Nat} (h : PE X e (tVar i)) : DS hv X (.Return (some e) pos) (dRetV i) :=
  ps_imp (ps_ret h) fun D σ H ⟨F, γ, hd, P, K0, S, q, ok⟩ => by
    unfold dRetV at q
    split at q
    · rename_i r e1
      obtain ⟨v, h1, h2⟩ := S.s.pl i r e1
      exact ⟨v, h1, ok.rt _ q v hd P H S.g h2⟩
    · rename_i ds e1
      obtain ⟨p, vs, h1, n, h2, h3, h4⟩ := S.s.ol i ds e1
      exact ⟨_, h1, ok.rt _ q _ hd P H S.g ⟨p, vs, rfl, n, h2, h3, S.fr i _ p e1 rfl h1, h4⟩⟩
    · rename_i kvs e1
      obtain ⟨p, h1, n, h2, h4⟩ := S.s.od i kvs e1
      exact ⟨_, h1, ok.rt _ q _ hd P H S.g ⟨p, rfl, n, h2, S.fr i _ p e1 rfl h1, h4⟩⟩
    · exact q.elim
end
end DL

namespace DL
open PySem PySem.Spec PyProof.Rows L2 PySem.W

section
variable {c : Cfg} {F : Ent} {γ : Gam} {σ : L2.St} {hd hd' : Hd} {P P' : Pd} {H H' : Hp} {K0 : DK} {D : Ends}
theorem Sta.weak (S : Sta c γ σ hd P H) : ∀ vs : List Nat, Sta c (wipeG γ vs) σ hd P H
  | [] => S
  | v :: vs => (Sta.weak S vs).forget1 v rfl fun _ _ => rfl
theorem own_wipe {γ : Gam} {k : Nat} {s : Sl} : ∀ {vs : List Nat}, (wipeG γ vs)[k]? = some s → s.own = true → γ[k]? = some s
  | [], e, _ => e
  | v :: vs, e, o => by
    have e' : ((wipeG γ vs).set v .non)[k]? = some s := e
    by_cases hk : v = k
    · subst hk
      by_cases hl : v < (wipeG γ vs).length
      · rw [List.getElem?_set_self hl] at e'; cases e'; cases o
      · rw [List.getElem?_eq_none (by rw [List.length_set]; omega)] at e'; cases e'
    · rw [List.getElem?_set_ne hk] at e'
      exact own_wipe e' o
theorem StF.weak (S : StF c F γ σ hd P H) (vs : List Nat) : StF c F (wipeG γ vs) σ hd P H := ⟨S.s.weak vs, S.g, S.j0, fun k s p e o r => S.fr k s p (own_wipe e o) o r⟩
theorem Sta.nc (S : Sta c γ σ hd P H) {i : Nat} {s0 : Sl} {p : Addr} {ob : HO} (hi : γ[i]? = some s0) (h0 : s0.own = true) (hs : σ[i]? = some (some (.ref p))) (hp : H p = some ob) : NC ob := by
  cases s0 with
  | non => cases h0
  | pl r => cases h0
  | ol ds =>
    obtain ⟨q, vs, e1, _, e2, _⟩ := S.ol i ds hi
    rw [hs] at e1; cases e1
    rw [hp] at e2; cases e2
    exact nc_lst
  | od kvs =>
    obtain ⟨q, e1, _, e2, _⟩ := S.od i kvs hi
    rw [hs] at e1; cases e1
    exact e2.nc hp
/-- an own thing is written -/
theorem Sta.mut (S : Sta c γ σ hd P H) {i : Nat} {s0 sl : Sl} {p : Addr} {ob o' : HO} (hi : γ[i]? = some s0) (h0 : s0.own = true) (hs : σ[i]? = some (some (.ref p))) (np : ¬ P p) (nh : ¬ hdA hd p) (hp : H p = some ob) (ht : ∀ xs, ob ≠ .tup xs) (ho : sl.own = true)
    (hl : ∀ ds, sl = .ol ds → ∃ vs, o' = .lst vs ∧ Reps c.K P H vs ds) (hdc : ∀ kvs, sl = .od kvs → DcAt c.K P (L2.upd H p o') p kvs) : Sta c (γ.set i sl) σ hd P (L2.upd H p o') := by
  have hil : i < γ.length := (List.getElem?_eq_some_iff.mp hi).1
  have km : Kept c.K P H P (L2.upd H p o') := ⟨fun _ h => h, fun a o h hP => by
    have ha : a ≠ p := fun z => np (z ▸ hP)
    rw [upd_ne ha]; exact h, fun a xs h => by
    have ha : a ≠ p := fun z => by rw [z, hp] at h; cases h; exact ht xs rfl
    rw [upd_ne ha]; exact h⟩
  have jm : J c hd P (L2.upd H p o') := by
    refine ⟨fun a h => ?_, ?_, S.j.hnp⟩
    · by_cases ha : a = p
      · rw [ha, upd_same]; exact Option.some_ne_none _
      · rw [upd_ne ha]; exact S.j.ptr a h
    · exact S.j.hand.mut o' nh hp (S.nc hi h0 hs hp)
  refine ⟨by rw [List.length_set]; exact S.len, fun k r e => ?_, fun k ds e => ?_, fun k kvs e => ?_, fun a b s t q ea eb oa ob' ha hb => ?_, jm⟩
  · by_cases hk : i = k
    · subst hk
      rw [List.getElem?_set_self hil] at e
      cases e; cases ho
    · rw [List.getElem?_set_ne hk] at e
      obtain ⟨v, h1, h2⟩ := S.pl k r e
      refine ⟨v, h1, RepV.kept km (fun a o u z => ?_) h2⟩
      have ha : a ≠ p := fun w => by
        rw [w, hp] at z
        cases z
        cases s0 with
        | non => cases h0
        | pl r => cases h0
        | ol ds =>
          obtain ⟨q, vs, e1, _, e2, _⟩ := S.ol i ds hi
          rw [hs] at e1; cases e1
          rw [hp] at e2; cases e2
        | od kvs =>
          obtain ⟨q, e1, _, e2, _⟩ := S.od i kvs hi
          rw [hs] at e1; cases e1
          rcases e2 with ⟨l, e3, _⟩ | ⟨l, e3, _⟩
          · rw [hp] at e3; cases e3
          · rw [hp] at e3; cases e3
      rw [upd_ne ha]; exact z
  · by_cases hk : i = k
    · subst hk
      rw [List.getElem?_set_self hil] at e
      obtain ⟨vs, h1, h2⟩ := hl ds (Option.some.inj e)
      exact ⟨p, vs, hs, nh, by rw [upd_same, h1], Reps.kept km h2, np⟩
    · rw [List.getElem?_set_ne hk] at e
      obtain ⟨q, vs, h1, n, h2, h3, h4⟩ := S.ol k ds e
      have hq : q ≠ p := fun z => by
        subst z
        exact hk (S.dis i k s0 _ q hi e h0 rfl hs h1)
      exact ⟨q, vs, h1, n, by rw [upd_ne hq]; exact h2, Reps.kept km h3, h4⟩
  · by_cases hk : i = k
    · subst hk
      rw [List.getElem?_set_self hil] at e
      exact ⟨p, hs, nh, hdc kvs (Option.some.inj e), np⟩
    · rw [List.getElem?_set_ne hk] at e
      obtain ⟨q, h1, n, h2, h4⟩ := S.od k kvs e
      have hq : q ≠ p := fun z => by
        subst z
        exact hk (S.dis i k s0 _ q hi e h0 rfl hs h1)
      exact ⟨q, h1, n, h2.kept km (fun o z => by rw [upd_ne hq]; exact z), h4⟩
  · have key : ∀ (k : Nat) (u : Sl), (γ.set i sl)[k]? = some u → ∃ u', γ[k]? = some u' ∧ (u.own = true → u'.own = true) := fun k u e => by
      by_cases hk : i = k
      · subst hk; exact ⟨s0, hi, fun _ => h0⟩
      · rw [List.getElem?_set_ne hk] at e; exact ⟨u, e, id⟩
    obtain ⟨s', e1, o1⟩ := key a s ea
    obtain ⟨t', e2, o2⟩ := key b t eb
    exact S.dis a b s' t' q e1 e2 (o1 oa) (o2 ob') ha hb
theorem StF.mut (S : StF c F γ σ hd P H) {i : Nat} {s0 sl : Sl} {p : Addr} {ob o' : HO} (hi : γ[i]? = some s0) (h0 : s0.own = true) (hs : σ[i]? = some (some (.ref p))) (np : ¬ P p) (nh : ¬ hdA hd p) (hp : H p = some ob) (ht : ∀ xs, ob ≠ .tup xs) (ho : sl.own = true)
    (hl : ∀ ds, sl = .ol ds → ∃ vs, o' = .lst vs ∧ Reps c.K P H vs ds) (hdc : ∀ kvs, sl = .od kvs → DcAt c.K P (L2.upd H p o') p kvs) : StF c F (γ.set i sl) σ hd P (L2.upd H p o') := by
  refine ⟨S.s.mut hi h0 hs np nh hp ht ho hl hdc, S.g.mut (S.fr i s0 p hi h0 hs) np nh _ hp (S.s.nc hi h0 hs hp), S.j0, fun k s q e o r => ?_⟩
  by_cases hk : i = k
  · subst hk
    rw [hs] at r; cases r
    exact S.fr i s0 p hi h0 hs
  · rw [List.getElem?_set_ne hk] at e
    exact S.fr k s q e o r
theorem Evo.mut (S : StF c F γ σ hd P H) {p : Addr} {ob o' : HO} (np : ¬ P p) (hp : H p = some ob) (ht : ∀ xs, ob ≠ .tup xs) : Evo c P H P (L2.upd H p o') :=
  ⟨fun _ h => h, fun a o h hP => by
    have ha : a ≠ p := fun z => np (z ▸ hP)
    rw [upd_ne ha]; exact h, fun a xs h => by
    have ha : a ≠ p := fun z => by rw [z, hp] at h; cases h; exact ht xs rfl
    rw [upd_ne ha]; exact h⟩
/-- more comes into P, where it is none of the own ones' -/
theorem StF.more (S : StF c F γ σ hd P H) {H1 : Hp} (m : More c hd P H1 H P') (h1 : ∀ a, H1 a = none → F.H a = none ∧ ∀ (k : Nat) s, γ[k]? = some s → s.own = true → σ[k]? ≠ some (some (.ref a))) : StF c F γ σ hd P' H := by
  have k := m.kept (K := c.K)
  refine ⟨⟨S.s.len, fun i r e => ?_, fun i ds e => ?_, fun i kvs e => ?_, S.s.dis, m.j⟩, ⟨fun a h => m.sub a (S.g.sub a h), fun a h => (m.new a h).elim (S.g.new a) fun z => .inr (h1 a z).1, S.g.keep, S.g.hds, m.j⟩, S.j0, S.fr⟩
  · obtain ⟨v, e1, e2⟩ := S.s.pl i r e
    exact ⟨v, e1, RepV.kept k (fun _ _ _ z => z) e2⟩
  · obtain ⟨p, vs, e1, n, e2, e3, e4⟩ := S.s.ol i ds e
    exact ⟨p, vs, e1, n, e2, Reps.kept k e3, fun z => (m.new p z).elim e4 fun z => (h1 p z).2 i _ e rfl e1⟩
  · obtain ⟨p, e1, n, e2, e4⟩ := S.s.od i kvs e
    exact ⟨p, e1, n, e2.kept k (fun _ z => z), fun z => (m.new p z).elim e4 fun z => (h1 p z).2 i _ e rfl e1⟩
end

/-! ### loops -/
def forD (b : BT) (fg : List Nat) (body : FS) : List D → Gam → DK → Prop
  | [], γ, K => K.nx γ
  | d :: ds, γ, K => onS (b d γ) fun γ2 => body γ2 { nx := fun γ' => forD b fg body ds (wipeG γ' fg) K, ct := fun γ' => forD b fg body ds (wipeG γ' fg) K, bk := fun γ' => K.nx (wipeG γ' fg), rt := K.rt }
def dFor (fi : FI) (b : BT) (fg : List Nat) (body : FS) : FS := fun γ K => fi γ fun ds pl => pl = true ∧ forD b fg body ds γ K
def whD (ft : FT) (fg : List Nat) (body : FS) : Nat → Gam → DK → Prop
  | 0, _, _ => False
  | n + 1, γ, K => ft γ fun b => if b = true then body γ { nx := fun γ' => whD ft fg body n (wipeG γ' fg) K, ct := fun γ' => whD ft fg body n (wipeG γ' fg) K, bk := fun γ' => K.nx (wipeG γ' fg), rt := K.rt } else K.nx γ
def dWh (ft : FT) (fg : List Nat) (body : FS) : FS := fun γ K => ∃ n, whD ft fg body n γ K
section
variable {X : Cx} {hv : Hv} {pos : Pos} {tg iter c : Expr} {body : List Stmt} {fi : FI} {b : BT} {is fg : List Nat} {f : FS} {ft : FT}
theorem StF.tgt {c : Cfg} {F : Ent} {γ γ' : Gam} {σ σ' : L2.St} {hd : Hd} {P : Pd} {H : Hp} (S : StF c F γ σ hd P H) (S' : Sta c γ' σ' hd P H) (h : ∀ (k : Nat) s p, γ'[k]? = some s → s.own = true → σ'[k]? = some (some (.ref p)) → F.H p = none) : StF c F γ' σ' hd P H :=
  ⟨S', S.g, S.j0, h⟩
/-- a target leaves own slots as they are -/
structure BtOk (is : List Nat) (b : BT) : Prop where
  own : ∀ d γ γ', b d γ = some γ' → ∀ (k : Nat) s, γ'[k]? = some s → s.own = true → k ∉ is ∧ γ[k]? = some s
theorem sets_out {is : List Nat} {σ σ' : L2.St} (h : Sets is σ σ') {k : Nat} (hk : k ∉ is) : σ'[k]? = σ[k]? := by
  have e := congrArg (fun l : L2.St => l[k]?) (h is fun _ z => z)
  simp only [wipe_get, if_neg hk] at e
  exact e
theorem ds_for (hp : PassesOwn (model X.prog X.w) X.A X.env X.xe) (hc : X.calm = true) (hi : DI hv X tg iter fi) (hg : DG hv X tg is b) (hbt : BtOk is b) (hb : DSs hv X body f)
    (hs : ∀ x, foldedSetIterable iter X.env x = pure x := by intro _; rfl) : DS hv X (.For tg iter body [] pos) (dFor fi b fg f) := by
  refine ps_imp (ps_for hp hc hi hg hb hs) fun D σ H ⟨F, γ, hd, P, K0, S, q, ok⟩ => ?_
  refine ⟨γ, hd, P, _, S.s, q, fun ds pl q1 hd1 P1 H1 Jt g1 ⟨w⟩ => ?_⟩
  obtain ⟨hpl, q1⟩ := q1
  have hw := w.own hpl
  have S1 := S.grow g1
  have ok1 := ok.later (g1.kept S.s.j)
  have std : ∀ {P2 H2}, Evo ⟨X.K, hv⟩ P1 H1 P2 H2 → Stand w.Pw H1 H2 := fun {P2 H2} v a o ho hs => by
    rcases hs with hs | ⟨xs, rfl⟩
    · exact v.at_ a o ho (hw a hs)
    · exact v.tup a xs ho
  refine ⟨fun i m σ H => m = ds.length - i ∧ i ≤ ds.length ∧ ∃ γ hd2 P2, StF ⟨X.K, hv⟩ F γ σ hd2 P2 H ∧ Evo ⟨X.K, hv⟩ P1 H1 P2 H ∧ forD b fg f (ds.drop i) γ K0, ⟨ds.length, by omega, Nat.zero_le _, γ, hd1, P1, S1, Kept.refl, q1⟩, ?_⟩
  rintro i m σ2 H2 ⟨rfl, hil, γ2, hd2, P2, S2, v2, q2⟩
  by_cases hlt : i < ds.length
  · refine .inr ⟨w.walk.goes i H2 hlt (w.good H2 (std v2)), fun σ3 H3 => ∃ γ hd3 P3, StF ⟨X.K, hv⟩ F γ σ3 hd3 P3 H3 ∧ Evo ⟨X.K, hv⟩ P1 H1 P3 H3 ∧ forD b fg f (ds.drop (i + 1)) γ K0, fun σ3 H3 h3 => ⟨ds.length - (i + 1), by omega, rfl, hlt, h3⟩, fun x H3 hy => ?_⟩
    obtain ⟨d, ed, g3, rd⟩ := w.item i H2 x H3 hd2 P2 (std v2) v2 S2.s.j hlt (w.walk.yields i H2 x H3 hlt (w.good H2 (std v2)) hy)
    have hdr : ds.drop i = d :: ds.drop (i + 1) := by
      obtain ⟨h1, h2⟩ := List.getElem?_eq_some_iff.mp ed
      rw [List.drop_eq_getElem_cons h1, h2]
    rw [hdr] at q2
    have q3 : onS (b d γ2) fun γ3 => f γ3 { nx := fun γ' => forD b fg f (ds.drop (i + 1)) (wipeG γ' fg) K0, ct := fun γ' => forD b fg f (ds.drop (i + 1)) (wipeG γ' fg) K0, bk := fun γ' => K0.nx (wipeG γ' fg), rt := K0.rt } := q2
    obtain ⟨γ3, eb, q4⟩ := of_onS q3
    have S3 := S2.grow g3
    have v3 : Evo ⟨X.K, hv⟩ P1 H1 P2 H3 := v2.trans (g3.kept S2.s.j)
    refine ⟨γ2, hd2, P2, d, γ3, S3.s, rd, eb, fun σ4 S4 st => ?_⟩
    have S4' : StF ⟨X.K, hv⟩ F γ3 σ4 hd2 P2 H3 := S3.tgt S4 fun k s p e o r => by
      obtain ⟨n1, e1⟩ := hbt.own d γ2 γ3 eb k s e o
      rw [sets_out st n1] at r
      exact S3.fr k s p e1 o r
    exact ⟨F, γ3, hd2, P2, _, S4', q4, ⟨fun γ' q' σ' hd' P' H' S' v => ⟨_, hd', P', S'.weak fg, v3.trans v, q'⟩,
      fun γ' q' σ' hd' P' H' S' v => ok1.nx _ q' σ' hd' P' H' (S'.weak fg) (v3.trans v), fun γ' q' σ' hd' P' H' S' v => ⟨_, hd', P', S'.weak fg, v3.trans v, q'⟩, ok1.rt⟩⟩
  · have e : i = ds.length := by omega
    subst e
    rw [List.drop_eq_nil_of_le (Nat.le_refl _)] at q2
    exact .inl ⟨w.walk.stops H2 (w.good H2 (std v2)), ok1.nx γ2 q2 σ2 hd2 P2 H2 S2 v2⟩
theorem ds_wh (hp : PassesOwn (model X.prog X.w) X.A X.env X.xe) (hc : DT hv X c ft) (hb : DSs hv X body f) : DS hv X (.While c body [] pos) (dWh ft fg f) := by
  refine ps_imp (ps_while hp hc hb) fun D σ H ⟨F, γ, hd, P, K0, S, ⟨n, q⟩, ok⟩ => ?_
  refine ⟨fun m σ2 H2 => ∃ γ2 hd2 P2, StF ⟨X.K, hv⟩ F γ2 σ2 hd2 P2 H2 ∧ Evo ⟨X.K, hv⟩ P H P2 H2 ∧ whD ft fg f m γ2 K0, ⟨n, γ, hd, P, S, Kept.refl, q⟩, ?_⟩
  rintro m σ2 H2 ⟨γ2, hd2, P2, S2, v2, q2⟩
  cases m with
  | zero => exact q2.elim
  | succ m =>
    refine ⟨γ2, hd2, P2, _, S2.s, q2, fun b qb hd3 P3 H3 g3 => ?_⟩
    have S3 := S2.grow g3
    have v3 : Evo ⟨X.K, hv⟩ P H P3 H3 := v2.trans (g3.kept S2.s.j)
    cases b with
    | true =>
      refine iteT ⟨fun σ4 H4 => ∃ γ4 hd4 P4, StF ⟨X.K, hv⟩ F γ4 σ4 hd4 P4 H4 ∧ Evo ⟨X.K, hv⟩ P H P4 H4 ∧ whD ft fg f m γ4 K0, fun σ4 H4 h4 => ⟨m, Nat.lt_succ_self m, h4⟩, F, γ2, hd3, P3, _, S3, qb,
        ⟨fun γ' q' σ' hd' P' H' S' v => ⟨_, hd', P', S'.weak fg, v3.trans v, q'⟩, fun γ' q' σ' hd' P' H' S' v => ok.nx _ q' σ' hd' P' H' (S'.weak fg) (v3.trans v), fun γ' q' σ' hd' P' H' S' v => ⟨_, hd', P', S'.weak fg, v3.trans v, q'⟩, ok.rt⟩⟩
    | false => exact iteF (ok.nx γ2 qb σ2 hd3 P3 H3 S3 v3)
end
section
theorem bt_name (i : Nat) : BtOk [i] (bName i) := ⟨fun d γ γ' e k s h o => by
  cases e
  by_cases hk : i = k
  · subst hk
    by_cases hl : i < γ.length
    · rw [List.getElem?_set_self hl] at h; cases h; cases o
    · rw [List.getElem?_eq_none (by rw [List.length_set]; omega)] at h; cases h
  · rw [List.getElem?_set_ne hk] at h
    exact ⟨by simp; exact fun z => hk z.symm, h⟩⟩
structure BtsOk (is : List Nat) (b : BTs) : Prop where
  own : ∀ d γ γ', b d γ = some γ' → ∀ (k : Nat) s, γ'[k]? = some s → s.own = true → k ∉ is ∧ γ[k]? = some s
theorem bts_nil : BtsOk [] bNil := ⟨fun d γ γ' e k s h o => by
  cases d with
  | nil => cases e; exact ⟨by simp, h⟩
  | cons a r => cases e⟩
theorem bts_cons {is js : List Nat} {b : BT} {r : BTs} (h1 : BtOk is b) (h2 : BtsOk js r) : BtsOk (is ++ js) (bCons b r) := ⟨fun d γ γ' e k s h o => by
  cases d with
  | nil => cases e
  | cons a t =>
    obtain ⟨γ1, e1, e2⟩ := Option.bind_eq_some_iff.mp e
    obtain ⟨n2, q2⟩ := h2.own t γ1 γ' e2 k s h o
    obtain ⟨n1, q1⟩ := h1.own a γ γ1 e1 k s q2 o
    exact ⟨by rw [List.mem_append]; exact fun z => z.elim n1 n2, q1⟩⟩
theorem bt_tup {n : Nat} {is : List Nat} {r : BTs} (h : BtsOk is r) : BtOk is (bTup n r) := ⟨fun d γ γ' e k s hk o => by
  unfold bTup at e
  split at e
  · split at e
    · exact h.own _ γ γ' e k s hk o
    · cases e
  · cases e⟩
end
end DL

namespace DL
open PySem PySem.Spec PyProof.Rows L2 PySem.W

/-! ### own functions, entered where no guard stands -/
structure FnG (P : Program) (w : World) (K : PySem.W.Frag) (mg : Str → Option Value) (base : Heap) (k : Nat) (f : Addr) (fd : FuncData) (ps : List Str) (sp : Sp) : Prop where
  len : ∀ vs H Q E, sp vs H Q E → vs.length = ps.length
  run : ∀ (A : Around) (outer : List Env) (s : Shared) (H : Hp) (args : Args) (us : List Value) (vs : List V) (Q : VK) (E : XK), Room k A → A.guards = some [] → Env0 P w K mg base A outer s H → BindsTo s fd args (ps.zip us) → Vals vs us → sp vs H Q E →
    codeAny (model P w) A (.call (.ref f) args) (CR CX0 outer P w H s Q E) s
theorem FnG.mono {P : Program} {w : World} {K : PySem.W.Frag} {mg : Str → Option Value} {base : Heap} {j k : Nat} {f : Addr} {fd : FuncData} {ps : List Str} {sp : Sp} (F : FnG P w K mg base j f fd ps sp) (h : j ≤ k) : FnG P w K mg base k f fd ps sp :=
  ⟨F.len, fun A outer s H args us vs Q E hr => F.run A outer s H args us vs Q E (hr.mono h)⟩
theorem FnG.imp {P : Program} {w : World} {K : PySem.W.Frag} {mg : Str → Option Value} {base : Heap} {k : Nat} {f : Addr} {fd : FuncData} {ps : List Str} {sp sp' : Sp} (F : FnG P w K mg base k f fd ps sp) (h : ∀ vs H Q E, sp' vs H Q E → sp vs H Q E) : FnG P w K mg base k f fd ps sp' :=
  ⟨fun vs H Q E q => F.len vs H Q E (h _ _ _ _ q), fun A outer s H args us vs Q E hr hg e0 hb r q => F.run A outer s H args us vs Q E hr hg e0 hb r (h _ _ _ _ q)⟩
/-- a def, by its body -/
theorem fng_of {P : Program} {w : World} {K : PySem.W.Frag} {mg : Str → Option Value} {base : Heap} {k : Nat} {f : Addr} {name qual : Str} {params : Arguments} {body : List Stmt} {scope : Scope} {dV kV doc pm cdv ct oc : Value} {an od : Option Addr}
    {osl : Array (Option Value)} {N ps : List Str} {sp : Sp} (lk : K.lookup f = some ⟨oc, od, .func (PySem.W.fnOf name qual params body scope dV kV doc pm an cdv ct), osl⟩) (hcd : PySem.W.codeIn K cdv qual = true) (S : FnScope N ps scope)
    (len : ∀ vs H Q E, sp vs H Q E → vs.length = ps.length)
    (hbody : ∀ (A : Around) (outer : List Env) (s : Shared) (H : Hp) (vs : List V) (Q : VK) (E : XK), Room k (A.deeper (envOfC qual scope s.heap.objs.size f cdv)) → (A.deeper (envOfC qual scope s.heap.objs.size f cdv)).guards = some [] → sp vs H Q E →
      ∃ t, PSs (cxOf CX0 P w K mg base N qual scope f cdv A outer s H E).nox body t ∧ t { nx := fun _ H' => Q .non H', rt := Q } (L2.start N vs) H) :
    FnG P w K mg base (k + 1) f (PySem.W.fnOf name qual params body scope dV kV doc pm an cdv ct) ps sp := by
  refine ⟨len, fun A outer s H args us vs Q E room gd ent bd rel prom => ?_⟩
  have many := len _ _ _ _ prom
  have inK : K.In s.heap := ent.mod.kin.keeps fun b o e => (ent.bs b o e).1
  have nolim : s.heap.NoLimit := ent.mod.nolimit.keeps fun b o e => (ent.bs b o e).1
  have kinds : ∀ y ∈ ps.zip us, scope.names.lookup y.1 = some .local ∨ (scope.names.lookup y.1 = some .cell ∧ ((cellsFrom (s.heap.objs.size + 1) scope.names []).lookup y.1).isSome = true) := by
    rintro ⟨n, v⟩ hy
    rcases S.par n (List.of_mem_zip hy).1 with q | q
    · exact .inl q
    · exact .inr ⟨q, PySem.W.cellsFrom_some _ _ _ (.inl q)⟩
  refine codeAny_call_function room.depth (inK _ _ lk) rfl S.co S.gen rfl (PySem.W.codeRec_of inK hcd) (bd _ _ _ _ ?_)
  refine wpAny_newFunctionEnv_cells S.kind kinds fun env he s1 x => ?_
  subst he
  refine ⟨nolim.keeps x.toInCall.keep, codeAny_func ?_⟩
  obtain ⟨t, ht, hq⟩ := hbody A outer s H vs Q E (room.deeper _) gd prom
  have J0 : Inv (cxOf CX0 P w K mg base N qual scope f cdv A outer s H E) [] (L2.start N vs) H s1 := inv_start S room.hd ent many rel x
  refine wpAny_mono (ht.nox.run [] s1 (L2.start N vs) H _ J0 hq) (fun fl s' hs => ?_) fun e s' hs => hs
  have fin : ∀ {σ' : L2.St} {H' : Hp} {v : V} {u : Value}, Inv (cxOf CX0 P w K mg base N qual scope f cdv A outer s H E) [] σ' H' s' → RelV v u → Q v H' → CE outer P w H s Q u s' :=
    fun {σ' H' v u} i rv q => ⟨v, H', i.os, i.bare, i.base, i.hok, rv, q⟩
  cases fl with
  | ret u =>
    obtain ⟨v, σ', H', i, rv, q⟩ := hs
    exact fin i rv q
  | next =>
    obtain ⟨σ', H', i, q⟩ := hs
    exact fin (v := V.non) (u := Value.none) i rfl q
  | brk =>
    obtain ⟨_, _, _, q⟩ := hs
    cases q
  | cont =>
    obtain ⟨_, _, _, q⟩ := hs
    cases q

/-- a def of the program as it stands behind the top -/
def Defd (K : PySem.W.Frag) (mg : Str → Option Value) (x : Str) (st : Stmt) : Prop := ∃ f fd, mg x = some (.ref f) ∧ FunD K x x (defArgs st) (defBody st) (defScope st) [] [] f fd
/-- a def that keeps its promise -/
def Fn (hv : Hv) (P : Program) (w : World) (K : PySem.W.Frag) (mg : Str → Option Value) (base : Heap) (k : Nat) (x : Str) (ps : List Str) (sp : Spec) : Prop :=
  ∃ f fd, mg x = some (.ref f) ∧ PySem.W.keepIn K (.ref f) = true ∧ Binds K fd ps [] ∧ FnG P w K mg base k f fd ps (spOf ⟨K, hv⟩ sp)
def gam0 (n : Nat) (rs : List RV) : Gam := rs.map Sl.pl ++ List.replicate (n - rs.length) .non
/-- what a body must do -/
def kTo (Q0 : RV → Prop) : DK := { nx := fun _ => Q0 (.d .none), rt := fun t => onS t.rv Q0 }
def Meets (n : Nat) (m : FS) (sp : Spec) : Prop := ∀ rs Q0, sp rs Q0 → m (gam0 n rs) (kTo Q0)
section
variable {hv : Hv} {P : Program} {w : World} {K : PySem.W.Frag} {mg : Str → Option Value} {base : Heap} {k : Nat} {x : Str} {st : Stmt} {N ps : List Str} {sp : Spec} {m : FS}
theorem Fn.mono {j : Nat} (F : Fn hv P w K mg base j x ps sp) (h : j ≤ k) : Fn hv P w K mg base k x ps sp := by
  obtain ⟨f, fd, h1, h2, h3, h4⟩ := F
  exact ⟨f, fd, h1, h2, h3, h4.mono h⟩
theorem Fn.imp {sp' : Spec} (F : Fn hv P w K mg base k x ps sp) (h : ∀ rs Q0, sp' rs Q0 → sp rs Q0) : Fn hv P w K mg base k x ps sp' := by
  obtain ⟨f, fd, h1, h2, h3, h4⟩ := F
  exact ⟨f, fd, h1, h2, h3, h4.imp fun vs H Q E ⟨hd, P, rs, Q0, a, b, c, d⟩ => ⟨hd, P, rs, Q0, a, b, h _ _ c, d⟩⟩
theorem RepVs.at {c : Cfg} {hd : Hd} {P : Pd} {H : Hp} : ∀ {vs : List V} {rs : List RV} {i : Nat} {r : RV}, RepVs c hd P H vs rs → rs[i]? = some r → ∃ v, vs[i]? = some v ∧ RepV c hd P H v r
  | _, _, _, _, .nil, e => by simp at e
  | _, _, 0, _, .cons q _, e => by
    rw [List.getElem?_cons_zero] at e
    cases e
    exact ⟨_, rfl, q⟩
  | _, _, i + 1, _, .cons _ t, e => by
    rw [List.getElem?_cons_succ] at e
    obtain ⟨v, h1, h2⟩ := RepVs.at t e
    exact ⟨v, by rw [List.getElem?_cons_succ]; exact h1, h2⟩
theorem sta_start {c : Cfg} {hd : Hd} {P : Pd} {H : Hp} {vs : List V} {rs : List RV} (j : J c hd P H) (r : RepVs c hd P H vs rs) : Sta c (gam0 N.length rs) (L2.start N vs) hd P H := by
  have el := r.length
  have key : ∀ (i : Nat) s, (gam0 N.length rs)[i]? = some s → s = .non ∨ ∃ r, s = .pl r ∧ rs[i]? = some r := fun i s e => by
    unfold gam0 at e
    by_cases hi : i < rs.length
    · rw [List.getElem?_append_left (by rw [List.length_map]; exact hi), List.getElem?_map] at e
      cases q : rs[i]? with
      | none => rw [q] at e; cases e
      | some r0 => rw [q] at e; exact .inr ⟨r0, (Option.some.inj e).symm, rfl⟩
    · rw [List.getElem?_append_right (by rw [List.length_map]; omega)] at e
      exact .inl (List.eq_of_mem_replicate (List.mem_of_getElem? e))
  refine ⟨by unfold gam0 L2.start; simp [el], fun i r0 e => ?_, fun i ds e => ?_, fun i ds e => ?_, fun a b s t p ea eb oa ob _ _ => ?_, j⟩
  · rcases key i _ e with z | ⟨r1, z, e1⟩
    · cases z
    · cases z
      obtain ⟨v, h1, h2⟩ := r.at e1
      refine ⟨v, ?_, h2⟩
      have hi : i < vs.length := (List.getElem?_eq_some_iff.mp h1).1
      unfold L2.start
      rw [List.getElem?_append_left (by rw [List.length_map]; exact hi), List.getElem?_map, h1]
      rfl
  · rcases key i _ e with z | ⟨r1, z, e1⟩ <;> cases z
  · rcases key i _ e with z | ⟨r1, z, e1⟩ <;> cases z
  · rcases key a _ ea with z | ⟨r1, z, e1⟩ <;> (rw [z] at oa; cases oa)
/-- THE RULE: a def by its body's meaning -/
theorem fn_ok (D : Defd K mg x st) (S : FnScope N ps (defScope st)) (len : ∀ rs Q0, sp rs Q0 → rs.length = ps.length)
    (hb : ∀ (kV doc pm : Value) (an : Option Addr) (cdv ct : Value) (us : List Value), us.length = ps.length → bindArgs (PySem.W.fnOf x x (defArgs st) (defBody st) (defScope st) .none kV doc pm an cdv ct) ⟨us, []⟩ = pure (ps.zip us))
    (body : ∀ (f : Addr) (cdv : Value) (A : Around) (outer : List Env) (s : Shared) (H : Hp) (E : XK), Room k (A.deeper (envOfC x (defScope st) s.heap.objs.size f cdv)) → (A.deeper (envOfC x (defScope st) s.heap.objs.size f cdv)).guards = some [] →
      DSs hv (cxOf CX0 P w K mg base N x (defScope st) f cdv A outer s H E).nox (defBody st) m)
    (meets : Meets N.length m sp) : Fn hv P w K mg base (k + 1) x ps sp := by
  obtain ⟨f, fd, hm, F⟩ := D
  refine ⟨f, fd, hm, F.kp, F.bindsN hb, ?_⟩
  obtain ⟨oc, od, dV, kV, doc, pm, an, cdv, ct, osl, rfl, lk, hcd, _, _⟩ := F.ex
  refine fng_of (N := N) lk hcd S ?_ fun A outer s H vs Q E hr hg h => ⟨_, body f cdv A outer s H E hr hg, ?_⟩
  · rintro vs H Q E ⟨hd, Pd, rs, Q0, j, r, q, _⟩
    rw [r.length, len _ _ q]
  · obtain ⟨hd, Pp, rs, Q0, j, r, q, kk⟩ := h
    refine ⟨⟨hd, Pp, H⟩, gam0 N.length rs, hd, Pp, kTo Q0, ⟨sta_start j r, j.refl, j, fun i s p e o _ => ?_⟩, meets rs Q0 q, ⟨fun γ' q' σ' hd' P' H' S' _ => kk _ q' _ hd' P' H' S'.g Rep.non, fun γ' z => z.elim, fun γ' z => z.elim, fun t qt v hd' P' H' g1 r1 => ?_⟩⟩
    · unfold gam0 at e
      have hm := List.mem_of_getElem? e
      rw [List.mem_append] at hm
      rcases hm with hm | hm
      · obtain ⟨r0, _, z⟩ := List.mem_map.mp hm
        rw [← z] at o; cases o
      · rw [List.eq_of_mem_replicate hm] at o; cases o
    · obtain ⟨r0, e0, q0⟩ := of_onS qt
      obtain ⟨P2, m2, r2⟩ := Res.toRV g1.j r1 e0
      exact kk r0 q0 v hd' P2 H' (g1.more m2) r2
end
section
variable {X : Cx} {hv : Hv} {k : Nat} {f : Addr} {fd : FuncData} {ps : List Str} {sp : Sp} {x : Str} {p pos : Pos} {e : Expr} {es : List Expr} {t : TA} {fr : FA} {S : Spec}
theorem run_fng {pins : List (Addr × Obj)} {σ : L2.St} {H : Hp} {s : Shared} {Q : VK} {us : List Value} {vs : List V} (F : FnG X.prog X.w X.K X.mg X.base k f fd ps sp) (hr : Room k X.A) (hgd : X.A.guards = some []) (hb : Binds X.K fd ps [])
    (I : Inv X pins σ H s) (r : Vals vs us) (h : sp vs H Q E0) : wpAny (model X.prog X.w) X.A (call (.ref f) us) (EP X pins σ Q) X.xe s := by
  have many : (us ++ []).length = ps.length := by rw [List.append_nil, ← r.length]; exact F.len _ _ _ _ h
  have bd := hb s us I.kIn many
  rw [List.append_nil] at bd
  refine wpAny_call (codeAny_mono (F.run X.A X.stack s H ⟨us, []⟩ us vs Q E0 hr hgd I.env0 bd r h) fun r s' got => ?_)
  cases r with
  | error e => exact False.elim got
  | ok fl =>
    cases fl with
    | ret u => exact I.after got
    | _ => exact False.elim got
theorem pe_callG (F : FnG X.prog X.w X.K X.mg X.base k f fd ps sp) (hr : Room k X.A) (hgd : X.A.guards = some []) (hg : Gl X x) (hm : X.mg x = some (.ref f)) (hk : PySem.W.keepIn X.K (.ref f) = true) (hb : Binds X.K fd ps [])
    (ha : PA X (e :: es) t) (hdb : (x == ("__debug__" : Str)) = false := by decide) (he : starEach (e :: es) X.env = (false, eval e X.env) :: starEach es X.env := by rfl) (hpl : (backTo pos (starEach es X.env)).any (·.1) = false := by rfl) :
    PE X (.Call (.Name x p) (e :: es) [] pos) (tCall sp [] E0 t) := by
  constructor
  intro pins s σ H Q I h
  refine wpAny_Call_Name_kw (ld_glob I hg hm ?_ hdb)
  refine PySem.W.callWith_K (h₀ := X.base) I.ok.mod.kin hk (thn (ha.run pos pins s σ H _ I h) fun us s1 ⟨vs, H1, I1, r, q⟩ => ⟨I1.kIn, ?_⟩) he hpl
  have q2 : sp (vs ++ []) H1 Q E0 := q
  rw [List.append_nil] at q2
  exact run_fng F hr hgd hb I1 r q2
theorem pe_callG0 (F : FnG X.prog X.w X.K X.mg X.base k f fd ps sp) (hr : Room k X.A) (hgd : X.A.guards = some []) (hg : Gl X x) (hm : X.mg x = some (.ref f)) (hk : PySem.W.keepIn X.K (.ref f) = true) (hb : Binds X.K fd ps [])
    (hdb : (x == ("__debug__" : Str)) = false := by decide) : PE X (.Call (.Name x p) [] [] pos) (tCall sp [] E0 tNil) := by
  constructor
  intro pins s σ H Q I h
  refine wpAny_Call_Name_kw (ld_glob I hg hm ?_ hdb)
  exact PySem.W.callWith_K0 I.kIn hk (run_fng (us := []) F hr hgd hb I .nil h)
theorem de_fn (F : Fn hv X.prog X.w X.K X.mg X.base k x ps S) (hr : Room k X.A) (hgd : X.A.guards = some []) (ha : DA hv X (e :: es) fr) (hg : Gl X x := by rfl) (hdb : (x == ("__debug__" : Str)) = false := by decide)
    (he : starEach (e :: es) X.env = (false, eval e X.env) :: starEach es X.env := by rfl) (hpl : (backTo pos (starEach es X.env)).any (·.1) = false := by rfl) : DE hv X (.Call (.Name x p) (e :: es) [] pos) (dCall S fr) := by
  obtain ⟨f, fd, h1, h2, h3, h4⟩ := F
  exact pe_imp (pe_callG h4 hr hgd hg h1 h2 h3 ha hdb he hpl) t_call
theorem de_fn0 (F : Fn hv X.prog X.w X.K X.mg X.base k x ps S) (hr : Room k X.A) (hgd : X.A.guards = some []) (hg : Gl X x := by rfl) (hdb : (x == ("__debug__" : Str)) = false := by decide) : DE hv X (.Call (.Name x p) [] [] pos) (dCall S dNil) := by
  obtain ⟨f, fd, h1, h2, h3, h4⟩ := F
  refine pe_imp (pe_callG0 h4 hr hgd hg h1 h2 h3 hdb) fun σ H Q h => ?_
  obtain ⟨γ, hd, Pp, Q0, St, q, kk⟩ := t_call (E := E0) σ H Q h
  exact kk [] q [] hd Pp H St.j.refl .nil
end
end DL
namespace DL
open PySem PySem.Spec PyProof.Rows L2 PySem.W
theorem fn_none {hv : Hv} {P : Program} {w : World} {K : PySem.W.Frag} {mg : Str → Option Value} {base : Heap} {k : Nat} {x : Str} {st : Stmt} {N ps : List Str} {sp : Spec} (D : Defd K mg x st) (_ : FnScope N ps (defScope st))
    (hb : ∀ (kV doc pm : Value) (an : Option Addr) (cdv ct : Value) (us : List Value), us.length = ps.length → bindArgs (PySem.W.fnOf x x (defArgs st) (defBody st) (defScope st) .none kV doc pm an cdv ct) ⟨us, []⟩ = pure (ps.zip us))
    (no : ∀ rs Q, sp rs Q → False) : Fn hv P w K mg base k x ps sp := by
  obtain ⟨f, fd, hm, F⟩ := D
  exact ⟨f, fd, hm, F.kp, F.bindsN hb, fun vs H Q E ⟨_, _, rs, Q0, _, _, q, _⟩ => (no rs Q0 q).elim, fun A outer s H args us vs Q E _ _ _ _ _ ⟨_, _, rs, Q0, _, _, q, _⟩ => (no rs Q0 q).elim⟩
end DL

namespace DL
open PySem PySem.Spec PyProof.Rows L2 PySem.W

/-! ### several values, each new thing apart from the others -/
def TV.isFr : TV → Bool
  | .fr _ => true
  | .fd _ => true
  | _ => false
inductive RessD (c : Cfg) (hd : Hd) (P : Pd) (H0 H : Hp) : List V → List TV → Prop
  | nil : RessD c hd P H0 H [] []
  | cons {v : V} {vs : List V} {t : TV} {ts : List TV} : Res c hd P H0 H v t → RessD c hd P H0 H vs ts → (t.isFr = true → ∀ (k : Nat) u, ts[k]? = some u → u.isFr = true → vs[k]? ≠ some v) → RessD c hd P H0 H (v :: vs) (t :: ts)
def tDA2 (c : Cfg) (f : FA) : TA := fun σ H Q => ∃ γ hd P Q0, Sta c γ σ hd P H ∧ f γ Q0 ∧ ∀ ts, Q0 ts → ∀ vs hd' P' H', Grow c hd P H hd' P' H' → RessD c hd' P' H H' vs ts → Q vs H'
abbrev DA2 (hv : Hv) (X : Cx) (es : List Expr) (f : FA) : Prop := PA X es (tDA2 ⟨X.K, hv⟩ f)
section
variable {c : Cfg} {hd hd' : Hd} {P P' : Pd} {H H' H0 H2 : Hp}
theorem Res.frAt {v : V} {t : TV} (h : Res c hd P H0 H v t) (f : t.isFr = true) : ∃ p o, v = .ref p ∧ H0 p = none ∧ H p = some o := by
  cases t with
  | fr ds => obtain ⟨p, vs, e, _, h1, _, h2, _⟩ := h; exact ⟨p, _, e, h2, h1⟩
  | fd ds =>
    obtain ⟨p, e, _, h1, h2, _⟩ := h
    obtain ⟨o, ho, _⟩ := h1.there
    exact ⟨p, _, e, h2, ho⟩
  | pl r => cases f
  | lv r => cases f
  | dv r => cases f
theorem RessD.frAt : ∀ {vs : List V} {ts : List TV}, RessD c hd P H0 H vs ts → ∀ (k : Nat) u, ts[k]? = some u → u.isFr = true → ∃ p, vs[k]? = some (.ref p) ∧ H0 p = none
  | _, _, .nil, k, u, e, _ => by simp at e
  | _, _, .cons r rs _, 0, u, e, f => by
    rw [List.getElem?_cons_zero] at e
    cases e
    obtain ⟨p, o, rfl, h1, h2⟩ := r.frAt f
    exact ⟨p, rfl, h1⟩
  | _, _, .cons r rs _, k + 1, u, e, f => by
    rw [List.getElem?_cons_succ] at e ⊢
    exact RessD.frAt rs k u e f
theorem RessD.start (hh : ∀ a, H2 a = none → H0 a = none) : ∀ {vs : List V} {ts : List TV}, RessD c hd P H2 H vs ts → RessD c hd P H0 H vs ts
  | _, _, .nil => .nil
  | _, _, .cons r rs d => .cons (r.start hh) (RessD.start hh rs) d
theorem RessD.ress : ∀ {vs : List V} {ts : List TV}, RessD c hd P H0 H vs ts → Ress c hd P H0 H vs ts
  | _, _, .nil => .nil
  | _, _, .cons r rs _ => .cons r (RessD.ress rs)
end
section
variable {X : Cx} {hv : Hv} {e : Expr} {es : List Expr} {fe : FE} {fr : FA}
theorem da2_nil : DA2 hv X [] dNil := by
  refine pa_imp pa_nil fun σ H Q ⟨γ, hd, P, Q0, S, f, k⟩ => ?_
  exact k _ f [] hd P H S.j.refl .nil
theorem da2_cons (ha : DE hv X e fe) (hr : DA2 hv X es fr) (hs : starEach (e :: es) X.env = (false, eval e X.env) :: starEach es X.env := by rfl) : DA2 hv X (e :: es) (dCons fe fr) := by
  refine pa_imp (pa_cons ha hr hs) fun σ H Q ⟨γ, hd, P, Q0, S, f, k⟩ => ?_
  refine ⟨γ, hd, P, _, S, f, fun t q v hd1 P1 H1 g1 r1 => ?_⟩
  refine ⟨γ, hd1, P1, _, S.grow g1, q, fun ts q2 vs hd2 P2 H2 g2 r2 => ?_⟩
  refine k _ q2 _ hd2 P2 H2 (g1.trans S.j g2) (.cons (r1.grow g1.j g2) (r2.start fun a h => g1.free S.j h) fun f1 i u eu fu z => ?_)
  obtain ⟨p, o, e1, h1, h2⟩ := r1.frAt f1
  obtain ⟨p', e2, h3⟩ := r2.frAt i u eu fu
  rw [z] at e2
  rw [e1] at e2
  cases e2
  rw [h2] at h3
  cases h3
end

/-! ### stores of several values -/
def putsT : List Nat → List TV → Gam → Option Gam
  | [], [], γ => some γ
  | i :: is, t :: ts, γ => (putT i t γ).bind fun γ' => putsT is ts γ'
  | _, _, _ => none
def setsS : List Nat → List V → L2.St → L2.St
  | i :: is, v :: vs, σ => setsS is vs (σ.set i (some v))
  | _, _, σ => σ
theorem putT_own {i : Nat} {t : TV} {γ γ' : Gam} (e : putT i t γ = some γ') : ∀ (k : Nat) s, γ'[k]? = some s → s.own = true → (k = i ∧ t.isFr = true) ∨ (k ≠ i ∧ γ[k]? = some s) := fun k s h o => by
  by_cases hk : i = k
  · subst hk
    cases t with
    | pl r =>
      cases e
      by_cases hl : i < γ.length
      · rw [List.getElem?_set_self hl] at h; cases h; cases o
      · rw [List.getElem?_eq_none (by rw [List.length_set]; omega)] at h; cases h
    | fr ds => exact .inl ⟨rfl, rfl⟩
    | fd ds => exact .inl ⟨rfl, rfl⟩
    | lv ds => cases e
    | dv ds => cases e
  · refine .inr ⟨fun z => hk z.symm, ?_⟩
    cases t with
    | pl r => cases e; rw [List.getElem?_set_ne hk] at h; exact h
    | fr ds => cases e; rw [List.getElem?_set_ne hk] at h; exact h
    | fd ds => cases e; rw [List.getElem?_set_ne hk] at h; exact h
    | lv ds => cases e
    | dv ds => cases e
theorem StF.puts {c : Cfg} {F : Ent} {hd : Hd} {P : Pd} {H H1 : Hp} : ∀ {is : List Nat} {vs : List V} {ts : List TV} {γ γ' : Gam} {σ : L2.St}, StF c F γ σ hd P H → RessD c hd P H1 H vs ts → putsT is ts γ = some γ' →
    (∀ p, H1 p = none → F.H p = none) → (∀ (k : Nat) u p, ts[k]? = some u → u.isFr = true → vs[k]? = some (.ref p) → ∀ (i : Nat) s, γ[i]? = some s → s.own = true → σ[i]? ≠ some (some (.ref p))) → StF c F γ' (setsS is vs σ) hd P H
  | [], _, _, γ, γ', σ, S, .nil, e, _, _ => by cases e; exact S
  | [], _, _, γ, γ', σ, S, .cons _ _ _, e, _, _ => by cases e
  | i :: is, _, _, γ, γ', σ, S, .nil, e, _, _ => by cases e
  | i :: is, _, _, γ, γ', σ, S, .cons (v := v) (vs := vs) (t := t) (ts := ts) r rs dd, e, hf, ap => by
    have e' : (putT i t γ).bind (fun γ' => putsT is ts γ') = some γ' := e
    obtain ⟨γ1, e1, e2⟩ := Option.bind_eq_some_iff.mp e'
    have S1 : StF c F γ1 (σ.set i (some v)) hd P H := by
      cases t with
      | pl r0 => cases e1; exact S.setPl i r
      | lv ds => cases e1
      | dv ds => cases e1
      | fr ds =>
        cases e1
        obtain ⟨p, ws, rfl, n, h1, h2, h3, h4⟩ := r
        exact S.setOwn i rfl n h4 (hf p h3) (fun ds e => by cases e; exact ⟨ws, h1, h2⟩) (fun kvs e => by cases e) fun k s _ => ap 0 _ p rfl rfl rfl k s
      | fd kvs =>
        cases e1
        obtain ⟨p, rfl, n, h1, h3, h4⟩ := r
        exact S.setOwn i rfl n h4 (hf p h3) (fun ds e => by cases e) (fun kvs e => by cases e; exact h1) fun k s _ => ap 0 _ p rfl rfl rfl k s
    show StF c F γ' (setsS is vs (σ.set i (some v))) hd P H
    refine StF.puts S1 rs e2 hf fun k u p ek fk vk j s ej oj z => ?_
    rcases putT_own e1 j s ej oj with ⟨rfl, ft⟩ | ⟨nj, ej'⟩
    · have hl : j < σ.length := by
        by_cases q : j < σ.length
        · exact q
        · rw [List.getElem?_eq_none (by rw [List.length_set]; omega)] at z; cases z
      rw [List.getElem?_set_self hl] at z
      exact dd ft k u ek fk (vk.trans (by cases z; rfl))
    · rw [List.getElem?_set_ne (fun q => nj q.symm)] at z
      exact ap (k + 1) u p (by rw [List.getElem?_cons_succ]; exact ek) fk (by rw [List.getElem?_cons_succ]; exact vk) j s ej' oj z

/-! ### statements -/
def dPar (is : List Nat) (fr : FA) : FS := fun γ K => fr γ fun ts => onS (putsT is ts γ) K.nx
def dUnp (fe : FE) (b : BT) : FS := fun γ K => fe γ fun t => onS t.plain fun d => onS (b d γ) K.nx
def dApp (i : Nat) (fe : FE) : FS := fun γ K => match γ[i]? with
  | some (.ol ds) => fe γ fun t => onS t.plain fun d => ds.length < sizeLine ∧ K.nx (γ.set i (.ol (ds ++ [d])))
  | _ => False
def dExt (i : Nat) (fe : FE) : FS := fun γ K => match γ[i]? with
  | some (.ol ds) => fe γ fun t => onS t.data fun d => match d with
    | .list es => ds.length + es.length ≤ sizeLine ∧ K.nx (γ.set i (.ol (ds ++ es)))
    | _ => False
  | _ => False
def augT (sub : Bool) (x y : D) : Option D := match x, y with
  | .int i, .int j => some (.int (if sub then i - j else i + j))
  | .str a, .str b => if sub = false ∧ a.length + b.length ≤ sizeLine then some (.str (a ++ b)) else none
  | _, _ => none
def dAug (sub : Bool) (i : Nat) (fe : FE) : FS := fun γ K => match γ[i]? with
  | some (.pl (.d x)) => fe γ fun t => onS t.data fun y => onS (augT sub x y) fun z => K.nx (γ.set i (.pl (.d z)))
  | _ => False
def frzS : Sl → Sl
  | .ol ds => .pl (.d (.list ds))
  | .od kvs => .pl (.d (.dict kvs))
  | s => s
def frzG : List Nat → Gam → Gam
  | [], γ => γ
  | i :: is, γ => frzG is (match γ[i]? with | some s => γ.set i (frzS s) | none => γ)
def dFrz (is : List Nat) (f : FS) : FS := fun γ K => f (frzG is γ) K
section
variable {c : Cfg} {F : Ent} {γ : Gam} {σ : L2.St} {hd hd' : Hd} {P P' : Pd} {H H' : Hp}
theorem StF.frz1 (S : StF c F γ σ hd P H) (i : Nat) : ∃ P', StF c F (match γ[i]? with | some s => γ.set i (frzS s) | none => γ) σ hd P' H ∧ Evo c P H P' H := by
  have same : ∀ s, γ[i]? = some s → frzS s = s → γ.set i (frzS s) = γ := fun s e q => by
    rw [q]
    apply List.ext_getElem?
    intro k
    by_cases hk : i = k
    · subst hk
      rw [List.getElem?_set_self (List.getElem?_eq_some_iff.mp e).1, e]
    · rw [List.getElem?_set_ne hk]
  have go : ∀ (s : Sl) (p : Addr) (o : HO), γ[i]? = some s → s.own = true → σ[i]? = some (some (.ref p)) → ¬ hdA hd p → H p = some o → (RepV c hd (P.add p) H (.ref p) (match frzS s with | .pl r => r | _ => .hand)) → (∃ r, frzS s = .pl r) → ∃ P', StF c F (γ.set i (frzS s)) σ hd P' H ∧ Evo c P H P' H := fun s p o e ow es nh hp rr ⟨r, er⟩ => by
    have hil : i < γ.length := (List.getElem?_eq_some_iff.mp e).1
    have ka : Kept c.K P H (P.add p) H := Kept.add
    have fp := S.fr i s p e ow es
    have key : ∀ (k : Nat) s', (γ.set i (frzS s))[k]? = some s' → s'.own = true → k ≠ i ∧ γ[k]? = some s' := fun k s' ek ok => by
      by_cases hk : i = k
      · subst hk
        rw [List.getElem?_set_self hil, er] at ek
        cases ek; cases ok
      · rw [List.getElem?_set_ne hk] at ek
        exact ⟨fun z => hk z.symm, ek⟩
    rw [er] at rr
    refine ⟨P.add p, ⟨⟨by rw [List.length_set]; exact S.s.len, fun k r' ek => ?_, fun k ds ek => ?_, fun k kvs ek => ?_, fun a b s1 t1 q ea eb oa ob ha hb => ?_, S.s.j.add hp nh⟩, ⟨fun a h => .inl (S.g.sub a h), fun a h => h.elim (S.g.new a) fun z => .inr (by rw [z]; exact fp), S.g.keep, S.g.hds, S.s.j.add hp nh⟩, S.j0, fun k s' q ek ok es' => ?_⟩, ka⟩
    · by_cases hk : i = k
      · subst hk
        rw [List.getElem?_set_self hil, er] at ek
        cases ek
        exact ⟨_, es, rr⟩
      · rw [List.getElem?_set_ne hk] at ek
        obtain ⟨v, h1, h2⟩ := S.s.pl k r' ek
        exact ⟨v, h1, RepV.kept ka (fun _ _ _ z => z) h2⟩
    · obtain ⟨nk, ek'⟩ := key k _ ek rfl
      obtain ⟨q, vs, h1, n, h2, h3, h4⟩ := S.s.ol k ds ek'
      exact ⟨q, vs, h1, n, h2, Reps.kept ka h3, fun z => z.elim h4 fun z => nk (S.s.dis k i _ s q ek' e rfl ow h1 (by rw [z]; exact es))⟩
    · obtain ⟨nk, ek'⟩ := key k _ ek rfl
      obtain ⟨q, h1, n, h2, h4⟩ := S.s.od k kvs ek'
      exact ⟨q, h1, n, h2.kept ka (fun _ z => z), fun z => z.elim h4 fun z => nk (S.s.dis k i _ s q ek' e rfl ow h1 (by rw [z]; exact es))⟩
    · exact S.s.dis a b s1 t1 q (key a s1 ea oa).2 (key b t1 eb ob).2 oa ob ha hb
    · exact S.fr k s' q (key k s' ek ok).2 ok es'
  cases e : γ[i]? with
  | none => exact ⟨P, S, Kept.refl⟩
  | some s =>
    show ∃ P', StF c F (γ.set i (frzS s)) σ hd P' H ∧ Evo c P H P' H
    cases s with
    | non => rw [same _ e rfl]; exact ⟨P, S, Kept.refl⟩
    | pl r => rw [same _ e rfl]; exact ⟨P, S, Kept.refl⟩
    | ol ds =>
      obtain ⟨p, vs, h1, n, h2, h3, h4⟩ := S.s.ol i ds e
      exact go _ p _ e rfl h1 n h2 (Rep.lst h2 (.inr rfl) (Reps.kept Kept.add h3)) ⟨_, rfl⟩
    | od kvs =>
      obtain ⟨p, h1, n, h2, h4⟩ := S.s.od i kvs e
      obtain ⟨o, ho, _⟩ := h2.there
      exact go _ p o e rfl h1 n ho (DcAt.rep (h2.kept Kept.add fun _ z => z) (.inr rfl)) ⟨_, rfl⟩
theorem StF.frz (is : List Nat) : ∀ {γ : Gam} {P : Pd}, StF c F γ σ hd P H → ∃ P', StF c F (frzG is γ) σ hd P' H ∧ Evo c P H P' H := by
  induction is with
  | nil => exact fun {γ P} S => ⟨P, S, Kept.refl⟩
  | cons i is ih =>
    intro γ P S
    obtain ⟨P1, S1, v1⟩ := S.frz1 i
    obtain ⟨P2, S2, v2⟩ := ih S1
    exact ⟨P2, S2, v1.trans v2⟩
end
section
variable {X : Cx} {hv : Hv} {pos pos' tpos : Pos} {st : Stmt} {f : FS} {fe : FE} {fr : FA} {e a b cc : Expr} {is : List Nat} {bt : BT}
theorem ds_frz (h : DS hv X st f) : DS hv X st (dFrz is f) := ps_imp h fun D σ H ⟨F, γ, hd, P, K0, S, q, ok⟩ => by
  obtain ⟨P', S', v⟩ := S.frz is
  exact ⟨F, _, hd, P', K0, S', q, ok.later v⟩
theorem ds_unp {tg : Expr} (he : DE hv X e fe) (hg : DG hv X tg is bt) (hb : BtOk is bt) (hs : swapsWithSole [tg] e pos.line X.env = pure false := by rfl) (hw : swappedStores [tg] e X.env = pure none := by rfl)
    (h1 : (assignEach [tg] X.env).map (·.2) = [assign tg X.env] := by rfl) : DS hv X (.Assign [tg] e pos) (dUnp fe bt) :=
  ps_imp (ps_asg he hg hs hw h1) fun D σ H ⟨F, γ, hd, P, K0, S, q, ok⟩ => ⟨γ, hd, P, _, S.s, q, fun t qt v hd1 P1 H1 g1 r1 => by
    obtain ⟨d, e1, q1⟩ := of_onS qt
    obtain ⟨γ', e2, q2⟩ := of_onS q1
    obtain ⟨P2, m, r2⟩ := Res.plain g1.j r1 e1
    have g2 := g1.more m
    have S2 := S.grow g2
    refine ⟨γ, hd1, P2, d, γ', S2.s, r2, e2, fun σ' S3 st => ?_⟩
    refine ok.nx γ' q2 σ' hd1 P2 H1 (S2.tgt S3 fun k s p ek o r => ?_) (g2.kept S.s.j)
    obtain ⟨n1, e3⟩ := hb.own d γ γ' e2 k s ek o
    rw [sets_out st n1] at r
    exact S2.fr k s p e3 o r⟩
theorem par_done {c : Cfg} {F : Ent} {γ : Gam} {σ : L2.St} {hd hd1 : Hd} {P P1 : Pd} {H H1 : Hp} {K0 : DK} {D : Ends} {ts : List TV} {vs : List V} (S : StF c F γ σ hd P H) (ok : EndsOk c F P H K0 D) (qt : onS (putsT is ts γ) K0.nx) (g1 : Grow c hd P H hd1 P1 H1) (r1 : RessD c hd1 P1 H H1 vs ts) : D.nx (setsS is vs σ) H1 := by
  obtain ⟨γ', e1, q1⟩ := of_onS qt
  refine ok.nx γ' q1 _ hd1 P1 H1 ((S.grow g1).puts r1 e1 (fun p hp => S.g.free S.j0 hp) fun k u p eu fu ev => ?_) (g1.kept S.s.j)
  obtain ⟨p', e2, h2⟩ := r1.frAt k u eu fu
  rw [ev] at e2
  cases e2
  exact S.s.apart h2
theorem putsT_len : ∀ {is : List Nat} {ts : List TV} {γ γ' : Gam}, putsT is ts γ = some γ' → ts.length = is.length
  | [], [], _, _, _ => rfl
  | [], _ :: _, _, _, e => by cases e
  | _ :: _, [], _, _, e => by cases e
  | i :: is, t :: ts, γ, γ', e => by
    have e' : (putT i t γ).bind (fun γ' => putsT is ts γ') = some γ' := e
    obtain ⟨γ1, e1, e2⟩ := Option.bind_eq_some_iff.mp e'
    rw [List.length_cons, List.length_cons, putsT_len e2]
theorem RessD.len {c : Cfg} {hd : Hd} {P : Pd} {H0 H : Hp} : ∀ {vs : List V} {ts : List TV}, RessD c hd P H0 H vs ts → vs.length = ts.length
  | _, _, .nil => rfl
  | _, _, .cons _ rs _ => by rw [List.length_cons, List.length_cons, RessD.len rs]
theorem ds_par {i j : Nat} {x y : Str} {px py pt : Pos} {kt k2 pt2} (hc : X.calm = true) (hN : X.N.Nodup) (ha : DA2 hv X [a, b] fr) (hij : i ≠ j := by decide) (hi : X.N[i]? = some x := by rfl) (hj : X.N[j]? = some y := by rfl)
    (hx : X.env.scope.names.lookup x = some .local := by rfl) (hy : X.env.scope.names.lookup y = some .local := by rfl)
    (hw : swappedStores [.Tuple [.Name x px, .Name y py] kt pt] (.Tuple [a, b] k2 pt2) X.env = pure (some [x, y]) := by rfl)
    (hs : swapsWithSole [.Tuple [.Name x px, .Name y py] kt pt] (.Tuple [a, b] k2 pt2) pos.line X.env = pure false := by rfl) : DS hv X (.Assign [.Tuple [.Name x px, .Name y py] kt pt] (.Tuple [a, b] k2 pt2) pos) (dPar [i, j] fr) :=
  ps_imp (ps_par hc hN hi hj hij hx hy ha hw hs) fun D σ H ⟨F, γ, hd, P, K0, S, q, ok⟩ => ⟨γ, hd, P, _, S.s, q, fun ts qt vs hd1 P1 H1 g1 r1 => by
    have dn := par_done S ok qt g1 r1
    obtain ⟨γ', e1, _⟩ := of_onS qt
    have l := r1.len.trans (putsT_len e1)
    match vs, l, dn with
    | [v, w], _, dn => exact ⟨v, w, rfl, dn⟩⟩
theorem ds_par3 {i j l : Nat} {x y z : Str} {px py pz pt : Pos} {kt k2 pt2} (hc : X.calm = true) (hN : X.N.Nodup) (ha : DA2 hv X [a, b, cc] fr) (hij : i ≠ j := by decide) (hil : i ≠ l := by decide) (hjl : j ≠ l := by decide) (hi : X.N[i]? = some x := by rfl) (hj : X.N[j]? = some y := by rfl) (hl : X.N[l]? = some z := by rfl)
    (hx : X.env.scope.names.lookup x = some .local := by rfl) (hy : X.env.scope.names.lookup y = some .local := by rfl) (hz : X.env.scope.names.lookup z = some .local := by rfl)
    (hw : swappedStores [.Tuple [.Name x px, .Name y py, .Name z pz] kt pt] (.Tuple [a, b, cc] k2 pt2) X.env = pure (some [x, y, z]) := by rfl)
    (hs : swapsWithSole [.Tuple [.Name x px, .Name y py, .Name z pz] kt pt] (.Tuple [a, b, cc] k2 pt2) pos.line X.env = pure false := by rfl) : DS hv X (.Assign [.Tuple [.Name x px, .Name y py, .Name z pz] kt pt] (.Tuple [a, b, cc] k2 pt2) pos) (dPar [i, j, l] fr) :=
  ps_imp (ps_par3 hc hN hi hj hl hij hil hjl hx hy hz ha hw hs) fun D σ H ⟨F, γ, hd, P, K0, S, q, ok⟩ => ⟨γ, hd, P, _, S.s, q, fun ts qt vs hd1 P1 H1 g1 r1 => by
    have dn := par_done S ok qt g1 r1
    obtain ⟨γ', e1, _⟩ := of_onS qt
    have l := r1.len.trans (putsT_len e1)
    match vs, l, dn with
    | [v, w, u], _, dn => exact ⟨v, w, u, rfl, dn⟩⟩
/-- more names, or cells: through the tuple -/
def gNames : List Nat → TGs
  | [] => gNil
  | i :: is => gCons (gName i) (gNames is)
theorem gNames_to : ∀ {is : List Nat} {vs : List V} {σ : L2.St} {H : Hp} {Q : L2.St → Hp → Prop}, vs.length = is.length → Q (setsS is vs σ) H → gNames is vs σ H Q
  | [], [], σ, H, Q, _, q => ⟨rfl, q⟩
  | i :: is, v :: vs, σ, H, Q, l, q => ⟨v, vs, rfl, gNames_to (Nat.succ.inj l) q⟩
theorem ds_parT {es ns : List Expr} {kt k2 : Nat} {pt pt2 : Pos} (hc : X.calm = true) (ha : DA2 hv X es fr) (hg : PGs X ns (gNames is)) (hn : (assignEach ns X.env).length = is.length := by rfl) (hst : (assignEach ns X.env).findIdx? (·.1) = none := by rfl)
    (hs : swapsWithSole [.Tuple ns kt pt] (.Tuple es k2 pt2) pos.line X.env = pure false := by rfl) (hw : swappedStores [.Tuple ns kt pt] (.Tuple es k2 pt2) X.env = pure none := by rfl)
    (h1 : (assignEach [.Tuple ns kt pt] X.env).map (·.2) = [assign (.Tuple ns kt pt) X.env] := by rfl) (hl : is.length ≤ 64 := by decide) : DS hv X (.Assign [.Tuple ns kt pt] (.Tuple es k2 pt2) pos) (dPar is fr) :=
  ps_imp (ps_asg (pe_tup ha) (pg_tup hc hg hn hst) hs hw h1) fun D σ H ⟨F, γ, hd, P, K0, S, q, ok⟩ => ⟨γ, hd, P, _, S.s, q, fun ts qt vs hd1 P1 H1 g1 r1 => by
    obtain ⟨γ', e1, _⟩ := of_onS qt
    have l := r1.len.trans (putsT_len e1)
    refine ⟨by rw [l]; exact Nat.le_trans hl (by decide), fun p hp => ⟨p, vs, rfl, SqT.of upd_same, l, ?_⟩⟩
    have g2 := Grow.upd g1.j (o := .tup vs) hp
    refine gNames_to l (par_done S ok qt (g1.trans S.s.j g2) ?_)
    have grow : ∀ {ws : List V} {us : List TV}, RessD ⟨X.K, hv⟩ hd1 P1 H H1 ws us → RessD ⟨X.K, hv⟩ hd1 P1 H (L2.upd H1 p (.tup vs)) ws us := fun {ws us} r => by
      induction r with
      | nil => exact .nil
      | cons r rs dd ih => exact .cons (r.grow g1.j g2) ih dd
    exact grow r1⟩
theorem pgn_nil : PGs X [] (gNames []) := pgs_nil
theorem pgn_cons {i : Nat} {x : Str} {p : Pos} {es : List Expr} (hN : X.N.Nodup) (h2 : PGs X es (gNames is)) (hi : X.N[i]? = some x := by rfl) (hx : Loc X.env.scope x := by first | exact .inl rfl | exact .inr rfl) (hf : X.fn x = true ∨ X.env.scope.names.lookup x = some .local := by first | exact .inl rfl | exact .inr rfl)
    (hs : (assignEach (.Name x p :: es) X.env).map (·.2) = assign (.Name x p) X.env :: (assignEach es X.env).map (·.2) := by rfl) : PGs X (.Name x p :: es) (gNames (i :: is)) := pgs_cons (pg_name hN hi hx hf) h2 hs
end
end DL

namespace DL
open PySem PySem.Spec PyProof.Rows L2 PySem.W

/-! ### lists, dicts of one's own, written -/
section
variable {c : Cfg} {F : Ent} {γ : Gam} {σ : L2.St} {hd hd1 : Hd} {P P1 : Pd} {H H1 : Hp} {K0 : DK} {En : Ends}
theorem StF.olAt (S : StF c F γ σ hd P H) {i : Nat} {ds : List D} (e : γ[i]? = some (.ol ds)) : ∃ p vs, σ[i]? = some (some (.ref p)) ∧ ¬ hdA hd p ∧ H p = some (.lst vs) ∧ Reps c.K P H vs ds ∧ ¬ P p := S.s.ol i ds e
/-- the end of a write to an own list -/
theorem ol_done (S : StF c F γ σ hd P H) (ok : EndsOk c F P H K0 En) {i : Nat} {ds es : List D} {p : Addr} {vs ws : List V} (e : γ[i]? = some (.ol ds)) (es_ : σ[i]? = some (some (.ref p))) (nh : ¬ hdA hd p) (np : ¬ P p) (hp : H p = some (.lst vs)) (r : Reps c.K P H ws es) (q : K0.nx (γ.set i (.ol es))) : En.nx σ (L2.upd H p (.lst ws)) :=
  ok.nx _ q _ _ _ _ (S.mut e rfl es_ np nh hp (fun xs z => by cases z) rfl (fun ds z => by cases z; exact ⟨ws, rfl, r⟩) (fun kvs z => by cases z)) (Evo.mut S np hp fun xs z => by cases z)
theorem od_done (S : StF c F γ σ hd P H) (ok : EndsOk c F P H K0 En) {i : Nat} {kvs es : List (D × D)} {p : Addr} {ob o' : HO} (e : γ[i]? = some (.od kvs)) (es_ : σ[i]? = some (some (.ref p))) (nh : ¬ hdA hd p) (np : ¬ P p) (hp : H p = some ob) (ht : ∀ xs, ob ≠ .tup xs) (r : DcAt c.K P (L2.upd H p o') p es) (q : K0.nx (γ.set i (.od es))) : En.nx σ (L2.upd H p o') :=
  ok.nx _ q _ _ _ _ (S.mut e rfl es_ np nh hp ht rfl (fun ds z => by cases z) (fun kvs z => by cases z; exact r)) (Evo.mut S np hp ht)
theorem Rep.ndup {K : PySem.W.Frag} {v : V} {d : D} (r : Rep K P H v d) : True := trivial
/-- where nothing of P stands, and no tuple -/
theorem kept_upd {K : PySem.W.Frag} {p : Addr} {ob : HO} (np : ¬ P p) (hp : H p = some ob) (ht : ∀ xs, ob ≠ .tup xs) (o' : HO) : Kept K P H P (L2.upd H p o') :=
  ⟨fun _ h => h, fun a o h hP => by
    have ha : a ≠ p := fun z => np (z ▸ hP)
    rw [upd_ne ha]; exact h, fun a xs h => by
    have ha : a ≠ p := fun z => by rw [z, hp] at h; cases h; exact ht xs rfl
    rw [upd_ne ha]; exact h⟩
end
/-- k: v in a dict -/
def putD (kvs : List (D × D)) (k v : D) : List (D × D) := if (kvs.any fun q => PyData.eqv q.1 k) = true then kvs.map fun q => if PyData.eqv q.1 k = true then (q.1, v) else q else kvs ++ [(k, v)]
theorem put_any {κ : Type} [DecidableEq κ] (f : κ → D) (hf : ∀ a b, PyData.eqv (f a) (f b) = decide (a = b)) (k : κ) : ∀ {kvs : List (D × D)} {l : List (κ × V)}, kvs.map (·.1) = l.map (fun q => f q.1) → (kvs.any fun q => PyData.eqv q.1 (f k)) = l.any fun q => decide (q.1 = k)
  | [], [], _ => rfl
  | [], _ :: _, e => by cases e
  | _ :: _, [], e => by cases e
  | (a, b) :: r, (a', b') :: l, e => by
    rw [List.map_cons, List.map_cons] at e
    obtain ⟨e1, e2⟩ := List.cons.inj e
    have e1 : a = f a' := e1
    subst e1
    rw [List.any_cons, List.any_cons, put_any f hf k e2, hf]
theorem put_map {κ : Type} [DecidableEq κ] (f : κ → D) (hf : ∀ a b, PyData.eqv (f a) (f b) = decide (a = b)) {K : PySem.W.Frag} {P : Pd} {H : Hp} (k : κ) {v : V} {d : D} (rv : Rep K P H v d) : ∀ {kvs : List (D × D)} {l : List (κ × V)},
    kvs.map (·.1) = l.map (fun q => f q.1) → Reps K P H (l.map (·.2)) (kvs.map (·.2)) → (kvs.map fun q => if PyData.eqv q.1 (f k) = true then (q.1, d) else q).map (·.1) = (l.map fun q => if q.1 = k then (q.1, v) else q).map (fun q => f q.1) ∧
      Reps K P H ((l.map fun q => if q.1 = k then (q.1, v) else q).map (·.2)) ((kvs.map fun q => if PyData.eqv q.1 (f k) = true then (q.1, d) else q).map (·.2))
  | [], [], _, _ => ⟨rfl, .nil⟩
  | [], _ :: _, e, _ => by cases e
  | _ :: _, [], e, _ => by cases e
  | (a, b) :: r, (a', b') :: l, e, q => by
    rw [List.map_cons, List.map_cons] at e
    obtain ⟨e1, e2⟩ := List.cons.inj e
    have e1 : a = f a' := e1
    subst e1
    rw [List.map_cons, List.map_cons] at q
    cases q with
    | cons q1 q2 =>
      obtain ⟨i1, i2⟩ := put_map f hf k rv e2 q2
      simp only [List.map_cons]
      by_cases h : a' = k
      · rw [if_pos (show PyData.eqv (f a') (f k) = true by rw [hf]; simpa using h), if_pos h]
        exact ⟨by rw [i1], .cons rv i2⟩
      · rw [if_neg (show ¬ PyData.eqv (f a') (f k) = true by rw [hf]; simpa using h), if_neg h]
        exact ⟨by rw [i1], .cons q1 i2⟩
theorem putD_of {κ : Type} [DecidableEq κ] (f : κ → D) (hf : ∀ a b, PyData.eqv (f a) (f b) = decide (a = b)) {K : PySem.W.Frag} {P : Pd} {H : Hp} (k : κ) {v : V} {d : D} (rv : Rep K P H v d) {kvs : List (D × D)} {l : List (κ × V)}
    (e : kvs.map (·.1) = l.map (fun q => f q.1)) (q : Reps K P H (l.map (·.2)) (kvs.map (·.2))) : (putD kvs (f k) d).map (·.1) = (putK l k v).map (fun q => f q.1) ∧ Reps K P H ((putK l k v).map (·.2)) ((putD kvs (f k) d).map (·.2)) := by
  unfold putD putK
  rw [put_any f hf k e]
  split
  · exact put_map f hf k rv e q
  · rw [List.map_append, List.map_append, List.map_append, List.map_append, e]
    exact ⟨rfl, Reps.app q (.cons rv .nil)⟩
def setT (i : Nat) (d k : D) (γ : Gam) : Option Gam := match γ[i]? with
  | some (.ol ds) => (match k with
    | .int j => (ixN ds.length j).map fun n => γ.set i (.ol (ds.set n d))
    | _ => none)
  | some (.od kvs) => if keyOk k = true ∧ (kvs = [] ∨ allIT kvs (isTup k) = true) ∧ kvs.length < sizeLine then some (γ.set i (.od (putD kvs k d))) else none
  | _ => none
/-- x[k] = v -/
def dSub (i : Nat) (fk fv : FE) : FS := fun γ K => ((γ[i]?).bind seen).isSome = true ∧ fv γ fun tv => onS tv.plain fun d => fk γ fun tk => onS tk.data fun k => onS (setT i d k γ) K.nx
/-- x[k] op= v -/
def dAugS (sub : Bool) (i : Nat) (fk fv : FE) : FS := fun γ K => onS ((γ[i]?).bind seen) fun tx => fk γ fun tk => onS tk.data fun k => onS (idxT tx tk) fun t0 => onS t0.data fun x => fv γ fun tv => onS tv.data fun y => onS (augT sub x y) fun z => onS (setT i z k γ) K.nx
theorem augT_ok {K : PySem.W.Frag} {P : Pd} {H : Hp} {sub : Bool} {x y z : D} (e : augT sub x y = some z) : (∃ i j, x = .int i ∧ y = .int j ∧ z = .int (if sub then i - j else i + j)) ∨ (∃ a b, x = .str a ∧ y = .str b ∧ z = .str (a ++ b) ∧ sub = false ∧ a.length + b.length ≤ sizeLine) := by
  unfold augT at e
  split at e
  · exact .inl ⟨_, _, rfl, rfl, (Option.some.inj e).symm⟩
  · split at e
    · rename_i h
      exact .inr ⟨_, _, rfl, rfl, (Option.some.inj e).symm, h⟩
    · cases e
  · cases e
def opOf : Bool → Operator
  | true => .Sub
  | false => .Add
def tipA (sub : Bool) : TIp := fun x y H Q => (∃ i j, x = .int i ∧ y = .int j ∧ Q (.int (if sub then i - j else i + j)) H) ∨ ∃ a b, x = .str a ∧ y = .str b ∧ sub = false ∧ a.length + b.length ≤ sizeLine ∧ Q (.str (a ++ b)) H
theorem ip_aug {X : Cx} : ∀ sub, PIp X (opOf sub) (tipA sub)
  | true => by
    rintro pins s σ H x y v u Q I r1 r2 (⟨i, j, e1, e2, q⟩ | ⟨a, b, _, _, z, _⟩)
    · exact ip_sub pins s σ H x y v u Q I r1 r2 ⟨i, j, e1, e2, q⟩
    · cases z
  | false => by
    rintro pins s σ H x y v u Q I r1 r2 (⟨i, j, e1, e2, q⟩ | ⟨a, b, e1, e2, _, hz, q⟩)
    · exact ip_add pins s σ H x y v u Q I r1 r2 ⟨i, j, e1, e2, q⟩
    · exact iop_add_str pins s σ H x y v u Q I r1 r2 ⟨a, b, e1, e2, hz, q⟩
theorem Rep.aug {K : PySem.W.Frag} {P P2 : Pd} {H H2 : Hp} {sub : Bool} {x y z : D} {v w : V} (e : augT sub x y = some z) (rx : Rep K P H v x) (ry : Rep K P2 H2 w y) {H3 : Hp} {Q : VK} (q : ∀ u, (∀ P H, Rep K P H u z) → Q u H3) : tipA sub v w H3 Q := by
  rcases augT_ok (K := K) (P := P) (H := H) e with ⟨i, j, rfl, rfl, rfl⟩ | ⟨a, b, rfl, rfl, rfl, hs, hz⟩
  · cases rx; cases ry
    exact .inl ⟨i, j, rfl, rfl, q _ fun P H => .int _⟩
  · cases rx; cases ry
    exact .inr ⟨a, b, rfl, rfl, hs, hz, q _ fun P H => .str _⟩
def oneT (f : TV → Prop) : List TV → Prop
  | [t] => f t
  | _ => False
theorem oneT_ok {f : TV → Prop} : ∀ {ts : List TV}, oneT f ts → ∃ t, ts = [t] ∧ f t
  | [], h => h.elim
  | [t], h => ⟨t, rfl, h⟩
  | _ :: _ :: _, h => h.elim
theorem tyL {K : PySem.W.Frag} {H : Hp} {p : Addr} {vs : List V} (h : H p = some (.lst vs)) : tyV K "list" (.ref p) H := .inl ⟨rfl, vs, SqL.of h⟩
/-- a write, by values -/
def tsetD (X : Cx) : TSet := fun o k v H Q => rSetL o k v H Q ∨ rSetD o k v H Q ∨ ∃ p, o = .ref p ∧ H p = some (.dK []) ∧ rSetD o k v (L2.upd H p (.dT [])) Q ∨ ∃ p, o = .ref p ∧ H p = some (.dT []) ∧ rSetD o k v (L2.upd H p (.dK [])) Q
theorem set_any {X : Cx} (hu : X.A.units + 64 < cLine) : PSet X (tsetD X) := by
  have hu1 : X.A.units + 1 < cLine := by omega
  intro pins s σ H o k v ov kv u Q I r1 r2 r3 h
  rcases h with h | h | h
  · exact set_list pins s σ H o k v ov kv u Q I r1 r2 r3 h
  · exact set_dict hu1 pins s σ H o k v ov kv u Q I r1 r2 r3 h
  · obtain ⟨p, h⟩ := h
    rcases h with ⟨e, hp, h⟩ | ⟨p, e, hp, h⟩
    · exact set_dict hu1 pins s σ _ o k v ov kv u Q (k2t I hp) r1 r2 r3 h
    · exact set_dict hu1 pins s σ _ o k v ov kv u Q (t2k I hp) r1 r2 r3 h
section
variable {X : Cx} {hv : Hv} {pos pos' tpos apos cpos p0 : Pos} {fe fk fv : FE} {e k : Expr} {i : Nat} {x : Str} {sub : Bool}
theorem ds_app (hx : PE X (.Name x p0) (tVar i)) (he : DE hv X e fe) (hbase : attributeBase (.Name x p0) "append" X.env (eval (.Name x p0) X.env) = eval (.Name x p0) X.env := by rfl)
    (hfew : ((backTo cpos (starEach [e] X.env)).all (fun x => !x.1) && (backToKw cpos (keywordEach [] X.env)).all (fun x => x.1.isSome) && decide ([e].length + ([] : List Keyword).length + (if ([] : List Keyword).isEmpty then 0 else 1) < 30)) = true := by rfl)
    (hline : (apos.endLine == cpos.line) = true := by rfl) (hs : starEach [e] X.env = (false, eval e X.env) :: starEach [] X.env := by rfl) (hpl : (backTo cpos (starEach [] X.env)).any (·.1) = false := by rfl)
    (hsw : swapsWith (.Call (.Attribute (.Name x p0) "append" apos) [e] [] cpos) none pos.line X.env = pure false := by rfl) :
    DS hv X (.Expr (.Call (.Attribute (.Name x p0) "append" apos) [e] [] cpos) pos) (dApp i fe) :=
  ps_imp (ps_expr (pe_bm PySem.F.plainAttrs_list PySem.F.slot_list_append PySem.F.type_list_append mt_append hx (da_cons he da_nil hs) hbase hfew hline hs hpl) hsw) fun En σ H ⟨F, γ, hd, P, K0, S, q, ok⟩ => by
    unfold dApp at q
    split at q
    · rename_i ds eg
      obtain ⟨p, vs, h1, nh, h2, h3, np⟩ := S.s.ol i ds eg
      refine ⟨_, h1, tyL h2, γ, hd, P, oneT fun t => onS t.plain fun d => ds.length < sizeLine ∧ K0.nx (γ.set i (.ol (ds ++ [d]))), S.s, q, fun ts qt ws hd1 P1 H1 g1 r1 => ?_⟩
      obtain ⟨t, rfl, qt⟩ := oneT_ok qt
      · obtain ⟨w, rfl, r2⟩ := ress1 r1
        obtain ⟨d, e1, hz, qk⟩ := of_onS qt
        obtain ⟨P2, m, r3⟩ := Res.plain g1.j r2 e1
        have g2 := g1.more m
        have S2 := S.grow g2
        obtain ⟨p', vs', e1', nh', h2', h3', np'⟩ := S2.s.ol i ds eg
        rw [h1] at e1'
        cases e1'
        have h4 := g1.keep _ _ h2 nh
        rw [h4] at h2'
        cases h2'
        exact ⟨p, vs, w, rfl, rfl, h4, by rw [h3.length]; exact hz, ol_done S2 (ok.later (g2.kept S.s.j)) eg h1 nh' np' h4 (Reps.app h3' (.cons r3 .nil)) qk⟩
    · exact q.elim
theorem ds_ext (hx : PE X (.Name x p0) (tVar i)) (he : DE hv X e fe) (hbase : attributeBase (.Name x p0) "extend" X.env (eval (.Name x p0) X.env) = eval (.Name x p0) X.env := by rfl)
    (hfew : ((backTo cpos (starEach [e] X.env)).all (fun x => !x.1) && (backToKw cpos (keywordEach [] X.env)).all (fun x => x.1.isSome) && decide ([e].length + ([] : List Keyword).length + (if ([] : List Keyword).isEmpty then 0 else 1) < 30)) = true := by rfl)
    (hline : (apos.endLine == cpos.line) = true := by rfl) (hs : starEach [e] X.env = (false, eval e X.env) :: starEach [] X.env := by rfl) (hpl : (backTo cpos (starEach [] X.env)).any (·.1) = false := by rfl)
    (hsw : swapsWith (.Call (.Attribute (.Name x p0) "extend" apos) [e] [] cpos) none pos.line X.env = pure false := by rfl) :
    DS hv X (.Expr (.Call (.Attribute (.Name x p0) "extend" apos) [e] [] cpos) pos) (dExt i fe) :=
  ps_imp (ps_expr (pe_bm PySem.F.plainAttrs_list PySem.F.slot_list_extend PySem.F.type_list_extend mt_extend hx (da_cons he da_nil hs) hbase hfew hline hs hpl) hsw) fun En σ H ⟨F, γ, hd, P, K0, S, q, ok⟩ => by
    unfold dExt at q
    split at q
    · rename_i ds eg
      obtain ⟨p, vs, h1, nh, h2, h3, np⟩ := S.s.ol i ds eg
      refine ⟨_, h1, tyL h2, γ, hd, P, oneT fun t => onS t.data fun d => (match d with
          | .list es => ds.length + es.length ≤ sizeLine ∧ K0.nx (γ.set i (.ol (ds ++ es)))
          | _ => False), S.s, q, fun ts qt ws hd1 P1 H1 g1 r1 => ?_⟩
      obtain ⟨t, rfl, qt⟩ := oneT_ok qt
      · obtain ⟨w, rfl, r2⟩ := ress1 r1
        obtain ⟨d, e1, qk⟩ := of_onS qt
        split at qk
        · rename_i es
          obtain ⟨b, zs, rfl, hb, rb⟩ := r2.lst e1
          have S2 := S.grow g1
          obtain ⟨p', vs', e1', nh', h2', h3', np'⟩ := S2.s.ol i ds eg
          rw [h1] at e1'
          cases e1'
          have h4 := g1.keep _ _ h2 nh
          rw [h4] at h2'
          cases h2'
          exact ⟨p, b, vs, zs, rfl, rfl, h4, hb, by rw [h3.length, rb.length]; exact qk.1, ol_done S2 (ok.later (g1.kept S.s.j)) eg h1 nh' np' h4 (Reps.app h3' rb) qk.2⟩
        · exact qk.elim
    · exact q.elim
theorem ds_aug (hN : X.N.Nodup) (he : DE hv X e fe) (hi : X.N[i]? = some x := by rfl) (hx : Loc X.env.scope x := by first | exact .inl rfl | exact .inr rfl) (hf : X.fn x = true ∨ X.env.scope.names.lookup x = some .local := by first | exact .inl rfl | exact .inr rfl) :
    DS hv X (.AugAssign (.Name x pos') (opOf sub) e pos) (dAug sub i fe) :=
  ps_imp (ps_aug hN hi hx he (ip_aug sub) hf) fun En σ H ⟨F, γ, hd, P, K0, S, q, ok⟩ => by
    unfold dAug at q
    split at q
    · rename_i d eg
      obtain ⟨v, h1, h2⟩ := S.s.pl i _ eg
      refine ⟨v, h1, γ, hd, P, _, S.s, q, fun t qt w hd1 P1 H1 g1 r1 => ?_⟩
      obtain ⟨y, e1, qt⟩ := of_onS qt
      obtain ⟨z, e2, qk⟩ := of_onS qt
      refine Rep.aug e2 h2 (r1.rep e1) fun u ru => ?_
      exact ok.nx _ qk _ hd1 P1 H1 ((S.grow g1).setPl i (ru P1 H1)) (g1.kept S.s.j)
    · exact q.elim
end
end DL

namespace DL
open PySem PySem.Spec PyProof.Rows L2 PySem.W

section
variable {c : Cfg} {F : Ent} {γ γ' : Gam} {σ : L2.St} {hd hd1 : Hd} {P P1 : Pd} {H H1 : Hp} {K0 : DK} {En : Ends}
theorem setT_len {kvs : List (D × D)} {κ : Type} {l : List (κ × V)} {f : κ → D} (e : kvs.map (·.1) = l.map (fun q => f q.1)) : kvs.length = l.length := by
  have := congrArg List.length e
  simpa using this
theorem allIT_no {kvs : List (D × D)} {κ : Type} {l : List (κ × V)} {f : κ → D} {t u : Bool} (e : kvs.map (·.1) = l.map (fun q => f q.1)) (hf : ∀ a, isTup (f a) = u) (h : allIT kvs t = true) (d : t ≠ u) : l = [] := by
  cases kvs with
  | nil =>
    cases l with
    | nil => rfl
    | cons a b => cases e
  | cons a b =>
    cases l with
    | nil => cases e
    | cons a' b' =>
      rw [List.map_cons, List.map_cons] at e
      have e1 : a.1 = f a'.1 := (List.cons.inj e).1
      have h1 : (isTup a.1 == t && allIT b t) = true := h
      rw [Bool.and_eq_true] at h1
      have h2 := eq_of_beq h1.1
      rw [e1, hf] at h2
      exact absurd h2.symm d
theorem Rep.up {K : PySem.W.Frag} {v : V} {d : D} {Q Q' : Pd} (h : Rep K Q H v d) (s : ∀ a, Q a → Q' a) : Rep K Q' H v d := Rep.kept ⟨s, fun _ _ h _ => h, fun _ _ h => h⟩ h
/-- the write itself -/
theorem set_done {X : Cx} {hv : Hv} (S : StF ⟨X.K, hv⟩ F γ σ hd P H) (ok : EndsOk ⟨X.K, hv⟩ F P H K0 En) {i : Nat} {d kd : D} {x k v : V} (ex : σ[i]? = some (some x)) (rk : Rep X.K TrueP H k kd) (rv : Rep X.K P H v d) (qq : onS (setT i d kd γ) K0.nx) :
    tsetD X x k v H fun H' => En.nx σ H' := by
  obtain ⟨γ1, e, q⟩ := of_onS qq
  unfold setT at e
  split at e
  · rename_i ds eg
    obtain ⟨p, vs, h1, nh, h2, h3, np⟩ := S.s.ol i ds eg
    rw [ex] at h1
    cases h1
    split at e
    · rename_i j
      cases rk
      cases en : ixN ds.length j with
      | none => rw [en] at e; cases e
      | some n =>
        rw [en] at e
        cases e
        exact .inl ⟨p, vs, j, n, rfl, rfl, h2, by rw [h3.length]; exact en, ol_done S ok eg ex nh np h2 (Reps.set rv n h3) q⟩
    · cases e
  · rename_i kvs eg
    obtain ⟨p, h1, nh, h2, np⟩ := S.s.od i kvs eg
    rw [ex] at h1
    cases h1
    split at e
    · rename_i hk
      cases e
      obtain ⟨ko, sh, hz⟩ := hk
      rcases keyOk_cases ko with ⟨kk, rfl, ht⟩ | ⟨kk, rfl, ht⟩
      · obtain rfl := rep_key rk
        rcases h2 with ⟨l, hp, e1, rs⟩ | ⟨l, hp, e1, rs⟩
        · obtain ⟨e2, r2⟩ := putD_of keyD eqv_key kk rv e1 rs
          have km := kept_upd (K := X.K) (P := P) np hp (fun xs z => by cases z) (.dK (putK l kk v))
          refine .inr (.inl ⟨p, _, rfl, DPut.k hp (by rw [← setT_len e1]; exact hz), ?_⟩)
          exact od_done S ok eg ex nh np hp (fun xs z => by cases z) (.inl ⟨_, upd_same, e2, Reps.kept km r2⟩) q
        · have hl : l = [] := by
            rcases sh with rfl | sh
            · cases l with
              | nil => rfl
              | cons a b => cases e1
            · exact allIT_no e1 isTup_keyTD sh (by rw [ht]; decide)
          subst hl
          have hk0 : kvs = [] := by
            cases kvs with
            | nil => rfl
            | cons a b => cases e1
          subst hk0
          have km := kept_upd (K := X.K) (P := P) np hp (fun xs z => by cases z) (.dK (putK [] kk v))
          refine .inr (.inr ⟨p, .inr ⟨p, rfl, hp, p, _, rfl, DPut.k upd_same (by decide), ?_⟩⟩)
          rw [upd_upd]
          obtain ⟨e2, r2⟩ := putD_of keyD eqv_key kk rv (kvs := []) (l := []) rfl .nil
          exact od_done S ok eg ex nh np hp (fun xs z => by cases z) (.inl ⟨_, upd_same, e2, Reps.kept km r2⟩) q
      · obtain ⟨b, rfl, hb⟩ := rep_keyT rk
        rcases h2 with ⟨l, hp, e1, rs⟩ | ⟨l, hp, e1, rs⟩
        · have hl : l = [] := by
            rcases sh with rfl | sh
            · cases l with
              | nil => rfl
              | cons a b => cases e1
            · exact allIT_no e1 isTup_keyD sh (by rw [ht]; decide)
          subst hl
          have hk0 : kvs = [] := by
            cases kvs with
            | nil => rfl
            | cons a b => cases e1
          subst hk0
          have km := kept_upd (K := X.K) (P := P) np hp (fun xs z => by cases z) (.dT (putK [] kk v))
          have hbp : b ≠ p := fun z => by rw [z, hp] at hb; cases hb
          refine .inr (.inr ⟨p, .inl ⟨rfl, hp, p, _, rfl, DPut.t upd_same (by rw [upd_ne hbp]; exact hb) (by decide), ?_⟩⟩)
          rw [upd_upd]
          obtain ⟨e2, r2⟩ := putD_of keyTD eqv_keyT kk rv (kvs := []) (l := []) rfl .nil
          exact od_done S ok eg ex nh np hp (fun xs z => by cases z) (.inr ⟨_, upd_same, e2, Reps.kept km r2⟩) q
        · obtain ⟨e2, r2⟩ := putD_of keyTD eqv_keyT kk rv e1 rs
          have km := kept_upd (K := X.K) (P := P) np hp (fun xs z => by cases z) (.dT (putK l kk v))
          refine .inr (.inl ⟨p, _, rfl, DPut.t hp hb (by rw [← setT_len e1]; exact hz), ?_⟩)
          exact od_done S ok eg ex nh np hp (fun xs z => by cases z) (.inr ⟨_, upd_same, e2, Reps.kept km r2⟩) q
    · cases e
  · cases e
theorem Sta.seenAt (S : Sta c γ σ hd P H) {i : Nat} {t : TV} (e : (γ[i]?).bind seen = some t) : ∃ v, σ[i]? = some (some v) ∧ Res c hd P H H v t := by
  cases es : γ[i]? with
  | none => rw [es] at e; cases e
  | some sl =>
    rw [es] at e
    cases sl with
    | non => cases e
    | pl r =>
      cases e
      obtain ⟨v, h1, h2⟩ := S.pl i r es
      exact ⟨v, h1, h2⟩
    | ol ds =>
      cases e
      obtain ⟨p, vs, h1, n, h2, h3, _⟩ := S.ol i ds es
      exact ⟨_, h1, p, vs, rfl, n, h2, h3⟩
    | od kvs =>
      cases e
      obtain ⟨p, h1, n, h2, _⟩ := S.od i kvs es
      exact ⟨_, h1, p, rfl, n, h2⟩
end
section
variable {X : Cx} {hv : Hv} {pos pos' tpos apos cpos p0 : Pos} {fe fk fv : FE} {e k v o : Expr} {i : Nat} {x : Str} {sub : Bool}
theorem ds_sub (hu : X.A.units + 64 < cLine) (hx : PE X o (tVar i)) (hk : DE hv X k fk) (hvv : DE hv X v fv)
    (ha : ∀ u, assign (.Subscript o k tpos) X.env u = (do
      let ov ← holding [u] (eval o X.env)
      let iv ← holding [u, ov] (eval k X.env)
      standAt tpos
      holding [u, ov, iv] (setItem ov iv u)
      release [u, ov, iv] []) := by intro _; rfl)
    (hs : swapsWithSole [.Subscript o k tpos] v pos.line X.env = pure false := by rfl) (hw : swappedStores [.Subscript o k tpos] v X.env = pure none := by rfl)
    (h1 : (assignEach [.Subscript o k tpos] X.env).map (·.2) = [assign (.Subscript o k tpos) X.env] := by rfl) : DS hv X (.Assign [.Subscript o k tpos] v pos) (dSub i fk fv) :=
  ps_imp (ps_asg hvv (pg_sub hx hk (set_any hu) ha) hs hw h1) fun En σ H ⟨F, γ, hd, P, K0, S, q, ok⟩ => by
    obtain ⟨hi, q⟩ := q
    obtain ⟨t0, e0⟩ := Option.isSome_iff_exists.mp hi
    refine ⟨γ, hd, P, _, S.s, q, fun tv qv w hd1 P1 H1 g1 r1 => ?_⟩
    obtain ⟨d, e1, q1⟩ := of_onS qv
    obtain ⟨P2, m, r2⟩ := Res.plain g1.j r1 e1
    have g2 := g1.more m
    have S2 := S.grow g2
    obtain ⟨xv, ex, _⟩ := S2.s.seenAt e0
    refine ⟨xv, ex, γ, hd1, P2, _, S2.s, q1, fun tk qk kv hd3 P3 H3 g3 r3 => ?_⟩
    obtain ⟨kd, e3, qq⟩ := of_onS qk
    have S3 := S2.grow g3
    exact set_done S3 ((ok.later (g2.kept S.s.j)).later (g3.kept S2.s.j)) ex (r3.rep e3) (Rep.kept (g3.kept S2.s.j) r2) qq
theorem ds_asgLc {y : Str} {py : Pos} {tg iter : Expr} {ifs : List Expr} {scope : Scope} {own : List (Str × Nat)} {spos : Pos} {fi : FI} {b : BT} {is : List Nat} {fc : FT} (hc : X.calm = true) (hN : X.N.Nodup) (hi : DI hv X tg iter fi) (okb : blkC X.N X.env.scope scope own = true)
    (hg : ∀ (s : Shared) (H : Hp) (C : Addr) (cl : List (Str × Addr)) (fp : List Addr), DG hv (X.blk s H scope (compEnvC scope cl C X.env) fp) tg is b)
    (ht : ∀ (s : Shared) (H : Hp) (C : Addr) (cl : List (Str × Addr)) (fp : List Addr), DTs hv (X.blk s H scope (compEnvC scope cl C X.env) fp) ifs fc)
    (he : ∀ (s : Shared) (H : Hp) (C : Addr) (cl : List (Str × Addr)) (fp : List Addr), DE hv (X.blk s H scope (compEnvC scope cl C X.env) fp) e fe)
    (hy : X.N[i]? = some y := by rfl) (hyl : X.env.scope.names.lookup y = some .local := by rfl) (hsw : swapsWith (.ListComp e [⟨tg, iter, ifs, 0⟩] scope pos) (some (.Name y py)) spos.line X.env = pure true := by rfl)
    (hvs : ∀ i ∈ is, i ∈ own.map (·.2) := by decide) (hs : ∀ x, foldedSetIterable iter X.env x = pure x := by intro _; rfl) :
    DS hv X (.Assign [.Name y py] (.ListComp e [⟨tg, iter, ifs, 0⟩] scope pos) spos) (dAsg i (dLc fi b (own.map (·.2)) fc fe)) :=
  ps_imp (ps_setLc hc hN hy hyl hsw hi (blkOk_by okb) hg ht he hs) fun En σ H ⟨F, γ, hd, P, K0, S, q, ok⟩ => t_lc hvs σ H _ ⟨γ, hd, P, _, S.s, q, fun t qt v hd1 P1 H1 g1 r1 => by
    obtain ⟨γ', e1, q1⟩ := of_onS qt
    exact ok.nx γ' q1 _ hd1 P1 H1 ((S.grow g1).put r1 e1 S.apart0) (g1.kept S.s.j)⟩
/-- {} -/
def dDict0 : FE := fun _ Q => Q (.fd [])
end
end DL

namespace DL
open PySem PySem.Spec PyProof.Rows L2 PySem.W

theorem bt_len : bootBuiltins "len" = some (.builtin "len") := by decide +kernel
theorem bt_abs : bootBuiltins "abs" = some (.builtin "abs") := by decide +kernel
theorem bt_min : bootBuiltins "min" = some (.builtin "min") := by decide +kernel
theorem bt_max : bootBuiltins "max" = some (.builtin "max") := by decide +kernel
theorem bt_sum : bootBuiltins "sum" = some (.builtin "sum") := by decide +kernel
theorem bt_sorted : bootBuiltins "sorted" = some (.builtin "sorted") := by decide +kernel
theorem bt_repr : bootBuiltins "repr" = some (.builtin "repr") := by decide +kernel
theorem bt_all : bootBuiltins "all" = some (.builtin "all") := by decide +kernel
theorem bt_any : bootBuiltins "any" = some (.builtin "any") := by decide +kernel
theorem bt_int : bootBuiltins "int" = some (.type "int") := by decide +kernel
theorem bt_bool : bootBuiltins "bool" = some (.type "bool") := by decide +kernel
theorem bt_str : bootBuiltins "str" = some (.type "str") := by decide +kernel
theorem bt_list : bootBuiltins "list" = some (.type "list") := by decide +kernel
theorem bt_tuple : bootBuiltins "tuple" = some (.type "tuple") := by decide +kernel
theorem bt_dict : bootBuiltins "dict" = some (.type "dict") := by decide +kernel
theorem bt_set : bootBuiltins "set" = some (.type "set") := by decide +kernel

/-! ### what stands in the module -/
structure Glob (defs : List Stmt) (frees : List Str) (gi : List (Str × Int)) (gs : List (Str × Str)) (gn : List Str) (K : PySem.W.Frag) (mg : Str → Option Value) : Prop where
  df : ∀ (i : Nat) (st : Stmt) (x : Str), defs[i]? = some st → (match st with | .FunctionDef n _ _ _ _ _ _ _ _ _ => n | _ => "") = x → Defd K mg x st
  dg : ∀ (i : Nat) (st : Stmt) (x : Str), defs[i]? = some st → (match st with | .FunctionDef n _ _ _ _ _ _ _ _ _ => n | _ => "") = x → mg x = some (.ref (He.ga K x))
  free : ∀ (i : Nat) {x : Str}, frees[i]? = some x → mg x = none
  gint : ∀ (i : Nat) {x : Str} {n : Int}, gi[i]? = some (x, n) → ∃ t, mg x = some (.int n t)
  gstr : ∀ (i : Nat) {x z : Str}, gs[i]? = some (x, z) → ∃ t, mg x = some (.str z t)
  gnon : ∀ (i : Nat) {x : Str}, gn[i]? = some x → mg x = some .none
theorem u80 {k : Nat} {A : Around} (r : L2.Room k A) : A.units + 80 < cLine := by
  have := r.un
  omega
def dWeak (is : List Nat) (f : FS) : FS := fun γ K => f (wipeG γ is) K
section
variable {X : Cx} {hv : Hv} {pos : Pos} {x : Str} {i : Int} {z : Str} {st : Stmt} {is : List Nat} {f : FS}
theorem de_gint (h : ∃ t, X.mg x = some (.int i t)) (hg : Gl X x := by rfl) (hd : (x == ("__debug__" : Str)) = false := by decide) : DE hv X (.Name x pos) (dCon (.int i)) := by
  obtain ⟨t, h⟩ := h
  exact de_con (pe_glob hg h (show RelV (V.int i) _ from ⟨t, rfl⟩) hd) fun _ _ => .int i
theorem de_gnon (h : X.mg x = some .none) (hg : Gl X x := by rfl) (hd : (x == ("__debug__" : Str)) = false := by decide) : DE hv X (.Name x pos) (dCon .none) :=
  de_con (pe_glob hg h (show RelV V.non _ from rfl) hd) fun _ _ => .non
theorem de_gstr (h : ∃ t, X.mg x = some (.str z t)) (hg : Gl X x := by rfl) (hd : (x == ("__debug__" : Str)) = false := by decide) : DE hv X (.Name x pos) (dCon (.str z)) := by
  obtain ⟨t, h⟩ := h
  exact de_con (pe_glob hg h (show RelV (V.str z) _ from ⟨t, rfl⟩) hd) fun _ _ => .str z
theorem ds_weak (h : DS hv X st f) : DS hv X st (dWeak is f) := ps_imp h fun D σ H ⟨F, γ, hd, P, K0, S, q, ok⟩ => ⟨F, _, hd, P, K0, S.weak is, q, ok⟩
theorem de_dict0 : DE hv X (.Dict [] [] pos) dDict0 := by
  refine pe_imp pe_dnewK fun σ H Q ⟨γ, hd, P, Q0, S, f, k⟩ => ?_
  intro p hp
  have g2 := Grow.upd S.j (o := .dK []) hp
  have np := S.j.fresh hp
  exact k _ f _ hd P _ g2 ⟨p, rfl, np.2, .inl ⟨[], upd_same, rfl, .nil⟩, hp, np.1⟩
end

/-! ### promises by the number of arguments -/
abbrev Q1 := RV → Prop
def sp0 (f : Q1 → Prop) : Spec := fun rs Q => match rs with | [] => f Q | _ => False
def sp1 (f : RV → Q1 → Prop) : Spec := fun rs Q => match rs with | [a] => f a Q | _ => False
def sp2 (f : RV → RV → Q1 → Prop) : Spec := fun rs Q => match rs with | [a, b] => f a b Q | _ => False
def sp3 (f : RV → RV → RV → Q1 → Prop) : Spec := fun rs Q => match rs with | [a, b, c] => f a b c Q | _ => False
def sp4 (f : RV → RV → RV → RV → Q1 → Prop) : Spec := fun rs Q => match rs with | [a, b, c, d] => f a b c d Q | _ => False
def sp5 (f : RV → RV → RV → RV → RV → Q1 → Prop) : Spec := fun rs Q => match rs with | [a, b, c, d, e] => f a b c d e Q | _ => False
theorem sp0_len {f} : ∀ rs Q0, sp0 f rs Q0 → rs.length = 0
  | [], _, _ => rfl
  | _ :: _, _, h => h.elim
theorem sp1_len {f} : ∀ rs Q0, sp1 f rs Q0 → rs.length = 1
  | [], _, h => h.elim
  | [_], _, _ => rfl
  | _ :: _ :: _, _, h => h.elim
theorem sp2_len {f} : ∀ rs Q0, sp2 f rs Q0 → rs.length = 2
  | [], _, h => h.elim
  | [_], _, h => h.elim
  | [_, _], _, _ => rfl
  | _ :: _ :: _ :: _, _, h => h.elim
theorem sp3_len {f} : ∀ rs Q0, sp3 f rs Q0 → rs.length = 3
  | [], _, h => h.elim
  | [_], _, h => h.elim
  | [_, _], _, h => h.elim
  | [_, _, _], _, _ => rfl
  | _ :: _ :: _ :: _ :: _, _, h => h.elim
theorem sp4_len {f} : ∀ rs Q0, sp4 f rs Q0 → rs.length = 4
  | [], _, h => h.elim
  | [_], _, h => h.elim
  | [_, _], _, h => h.elim
  | [_, _, _], _, h => h.elim
  | [_, _, _, _], _, _ => rfl
  | _ :: _ :: _ :: _ :: _ :: _, _, h => h.elim
theorem sp5_len {f} : ∀ rs Q0, sp5 f rs Q0 → rs.length = 5
  | [], _, h => h.elim
  | [_], _, h => h.elim
  | [_, _], _, h => h.elim
  | [_, _, _], _, h => h.elim
  | [_, _, _, _], _, h => h.elim
  | [_, _, _, _, _], _, _ => rfl
  | _ :: _ :: _ :: _ :: _ :: _ :: _, _, h => h.elim
theorem meets0 {n : Nat} {m : FS} {f} (h : ∀ Q, f Q → m (gam0 n []) (kTo Q)) : Meets n m (sp0 f)
  | [], Q, q => h Q q
  | _ :: _, _, q => q.elim
theorem meets1 {n : Nat} {m : FS} {f} (h : ∀ a Q, f a Q → m (gam0 n [a]) (kTo Q)) : Meets n m (sp1 f)
  | [], _, q => q.elim
  | [a], Q, q => h a Q q
  | _ :: _ :: _, _, q => q.elim
theorem meets2 {n : Nat} {m : FS} {f} (h : ∀ a b Q, f a b Q → m (gam0 n [a, b]) (kTo Q)) : Meets n m (sp2 f)
  | [], _, q => q.elim
  | [_], _, q => q.elim
  | [a, b], Q, q => h a b Q q
  | _ :: _ :: _ :: _, _, q => q.elim
theorem meets3 {n : Nat} {m : FS} {f} (h : ∀ a b c Q, f a b c Q → m (gam0 n [a, b, c]) (kTo Q)) : Meets n m (sp3 f)
  | [], _, q => q.elim
  | [_], _, q => q.elim
  | [_, _], _, q => q.elim
  | [a, b, c], Q, q => h a b c Q q
  | _ :: _ :: _ :: _ :: _, _, q => q.elim
theorem meets4 {n : Nat} {m : FS} {f} (h : ∀ a b c d Q, f a b c d Q → m (gam0 n [a, b, c, d]) (kTo Q)) : Meets n m (sp4 f)
  | [], _, q => q.elim
  | [_], _, q => q.elim
  | [_, _], _, q => q.elim
  | [_, _, _], _, q => q.elim
  | [a, b, c, d], Q, q => h a b c d Q q
  | _ :: _ :: _ :: _ :: _ :: _, _, q => q.elim
theorem meets5 {n : Nat} {m : FS} {f} (h : ∀ a b c d e Q, f a b c d e Q → m (gam0 n [a, b, c, d, e]) (kTo Q)) : Meets n m (sp5 f)
  | [], _, q => q.elim
  | [_], _, q => q.elim
  | [_, _], _, q => q.elim
  | [_, _, _], _, q => q.elim
  | [_, _, _, _], _, q => q.elim
  | [a, b, c, d, e], Q, q => h a b c d e Q q
  | _ :: _ :: _ :: _ :: _ :: _ :: _, _, q => q.elim
end DL

namespace DL
open PySem PySem.Spec PyProof.Rows L2 PySem.W

/-! ### a def whose reading is told by hand -/
section
variable {hv : Hv} {P : Program} {w : World} {K : PySem.W.Frag} {mg : Str → Option Value} {base : Heap} {k : Nat} {x : Str} {st : Stmt} {N ps : List Str} {sp : Spec} {t : TS}
theorem fn_raw (D : Defd K mg x st) (S : FnScope N ps (defScope st)) (len : ∀ rs Q0, sp rs Q0 → rs.length = ps.length)
    (hb : ∀ (kV doc pm : Value) (an : Option Addr) (cdv ct : Value) (us : List Value), us.length = ps.length → bindArgs (PySem.W.fnOf x x (defArgs st) (defBody st) (defScope st) .none kV doc pm an cdv ct) ⟨us, []⟩ = pure (ps.zip us))
    (body : ∀ (f : Addr) (cdv : Value) (A : Around) (outer : List Env) (s : Shared) (H : Hp) (E : XK), Room k (A.deeper (envOfC x (defScope st) s.heap.objs.size f cdv)) → (A.deeper (envOfC x (defScope st) s.heap.objs.size f cdv)).guards = some [] →
      PSs (cxOf CX0 P w K mg base N x (defScope st) f cdv A outer s H E).nox (defBody st) t)
    (pure : ∀ hd Pp H vs rs Q0, J ⟨K, hv⟩ hd Pp H → RepVs ⟨K, hv⟩ hd Pp H vs rs → sp rs Q0 → ∀ Q : VK, (∀ r, Q0 r → ∀ v hd' P' H', Grow ⟨K, hv⟩ hd Pp H hd' P' H' → RepV ⟨K, hv⟩ hd' P' H' v r → Q v H') →
      t { nx := fun _ H' => Q .non H', rt := Q } (L2.start N vs) H) : Fn hv P w K mg base (k + 1) x ps sp := by
  obtain ⟨f, fd, hm, F⟩ := D
  refine ⟨f, fd, hm, F.kp, F.bindsN hb, ?_⟩
  obtain ⟨oc, od, dV, kV, doc, pm, an, cdv, ct, osl, rfl, lk, hcd, _, _⟩ := F.ex
  refine fng_of (N := N) lk hcd S ?_ fun A outer s H vs Q E hr hg h => ⟨_, body f cdv A outer s H E hr hg, ?_⟩
  · rintro vs H Q E ⟨hd, Pd, rs, Q0, j, r, q, _⟩
    rw [r.length, len _ _ q]
  · obtain ⟨hd, Pp, rs, Q0, j, r, q, kk⟩ := h
    exact pure hd Pp H vs rs Q0 j r q Q kk
end

/-! ### readings that give one int, one answer -/
def IE (σ : L2.St) (H : Hp) (t : TE) (i : Int) : Prop := ∀ Q : VK, Q (.int i) H → t σ H Q
def BE (σ : L2.St) (H : Hp) (t : TT) (b : Bool) : Prop := ∀ Q : Bool → Hp → Prop, Q b H → t σ H Q
abbrev rInt1 : List V → Hp → VK → Prop := fun xs H Q => (∃ i, xs = [.int i] ∧ Q (.int i) H) ∨ ∃ k, xs = [.bl k] ∧ Q (.int (if k then 1 else 0)) H
abbrev rLenS (K : PySem.W.Frag) : List V → Hp → VK → Prop := fun xs H Q => ∃ p ys, xs = [.ref p] ∧ (SqL K H p ys ∨ SqT K H p ys) ∧ Q (.int ys.length) H
section
variable {σ : L2.St} {H : Hp} {ta tb : TE} {i j : Int} {K : PySem.W.Frag}
theorem ie_c : IE σ H (tC (.int i)) i := fun Q q => q
theorem ie_var {k : Nat} (h : σ[k]? = some (some (.int i))) : IE σ H (tVar k) i := fun Q q => ⟨_, h, q⟩
theorem ie_0 {g : Int → Int → Int} (a : IE σ H ta i) (b : IE σ H tb j) : IE σ H (tOp (rI0 fun i j => .int (g i j)) ta tb) (g i j) := fun Q q => a _ (b _ ⟨i, j, rfl, rfl, q⟩)
theorem ie_1 {C : Int → Int → Prop} {g : Int → Int → Int} (a : IE σ H ta i) (b : IE σ H tb j) (h : C i j) : IE σ H (tOp (rI C fun i j => .int (g i j)) ta tb) (g i j) := fun Q q => a _ (b _ ⟨i, j, rfl, rfl, h, q⟩)
theorem ie_int (a : IE σ H ta i) : IE σ H (tCB rInt1 (L2.tCons ta L2.tNil)) i := fun Q q => a _ (.inl ⟨i, rfl, q⟩)
theorem be_cmp {p : Int → Int → Bool} (a : IE σ H ta i) (b : IE σ H tb j) : BE σ H (tB (tCmp p ta tb)) (p i j) := fun Q q => a _ (b _ ⟨i, j, rfl, rfl, _, rfl, q⟩)
theorem be_and {tA tB' : TT} {a b : Bool} (h1 : BE σ H tA a) (h2 : a = true → BE σ H tB' b) : BE σ H (tAnd tA tB') (a && b) := fun Q q => by
  refine h1 _ ?_
  cases a with
  | true => rw [if_pos rfl]; exact h2 rfl Q q
  | false => rw [if_neg (by decide)]; exact q
end

/-! ### the hand that draws (five places: the cells, the next cell's place, the number at hand, the seed, the count) -/
def hvA (T : List (Addr × Str)) : Hv := ⟨fun ns ms => ∃ a b c d, ns = [a, b, c, d] ∧ 0 ≤ a ∧ 0 ≤ b ∧ (0 ≤ c ∧ c < 2 ^ 40) ∧ ∀ m ∈ ms, 0 ≤ m, T⟩
def sp_draw : Spec := sp2 fun a b Q => a = .hand ∧ ∃ n : Int, b = .d (.int n) ∧ 0 < n ∧ n < 1073741824 ∧ ∀ r : Int, 0 ≤ r → r < n → Q (.d (.int r))
abbrev hI (K : PySem.W.Frag) (k : Int) : TE := tOp (rIxL K) (tVar 0) (tC (.int k))
abbrev oA : R2 := rI0 fun i j => .int (i + j)
abbrev oM : R2 := rI CMul fun i j => .int (i * j)
abbrev oR : R2 := rI (fun _ j => j ≠ 0) fun i j => .int (i.fmod j)
abbrev oD : R2 := rI CDivN fun i j => .int (i.fdiv j)
abbrev oP : R2 := rI CPow fun i j => .int (i ^ j.toNat)
abbrev tInt (t : TE) : TE := tCB rInt1 (L2.tCons t L2.tNil)
abbrev hSet (k : Int) (te : TE) : TS := tAsg te (gSub (tVar 0) (tC (.int k)) rSetL)
def tDrawA (K : PySem.W.Frag) (tx : TE) (m0 c0 m1 c1 d1 m2 d2 c2 e2 m3 d3 e3 m4 d4 : Int) : TS :=
  tSeq (tIfS (tAnd (tB (tEqI (hI K 2) (tC (.int 0)))) (tB (tLt (hI K 1) (tCB (rLenS K) (L2.tCons (hI K 0) L2.tNil)))))
    (tSeq (tAsg (tOp (rIxL K) (hI K 0) (hI K 1)) (gName 2))
    (tSeq (hSet 1 (tOp oA (hI K 1) (tC (.int 1))))
    (tSeq (hSet 3 (tOp oR (tInt (tOp oA (tOp oA (tOp oM (hI K 3) (tC (.int m0))) tx) (tC (.int c0)))) (tC (.int m1))))
      (tIfS (tB (tGe (tVar 2) (tOp oP (tC (.int 10)) (tC (.int 18))))) (hSet 2 (tVar 2)) tNext)))) tNext)
  (tSeq (tIfS (tB (tGt (hI K 2) (tC (.int 0))))
    (tSeq (tAsg (tOp oR (tInt (hI K 2)) (tVar 1)) (gName 3)) (tSeq (hSet 2 (tOp oD (hI K 2) (tVar 1))) (tRet (tVar 3)))) tNext)
  (tSeq (hSet 4 (tOp oA (hI K 4) (tC (.int 1))))
  (tSeq (tAsg (tOp oR (tInt (tOp oM (tInt (tOp oA (hI K 3) (tOp oM (tC (.int c1)) (hI K 4)))) (tC (.int d1)))) (tC (.int m2))) (gName 4))
  (tSeq (tAsg (tOp oR (tInt (tOp oM (tVar 4) (tOp oA (tOp oD (tVar 4) (tC (.int d2))) (tC (.int c2))))) (tC (.int e2))) (gName 4))
  (tSeq (tAsg (tOp oR (tInt (tOp oM (tVar 4) (tOp oA (tOp oD (tVar 4) (tC (.int d3))) (tC (.int m3))))) (tC (.int e3))) (gName 4))
    (tRet (tOp oR (tInt (tOp oD (tVar 4) (tC (.int d4)))) (tVar 1))))))))
/-- constants that will do -/
def okA (m0 c0 m1 c1 d1 m2 d2 c2 e2 m3 d3 e3 m4 d4 : Int) : Prop := (0 < m0 ∧ m0 < 2 ^ 60) ∧ (0 < m1 ∧ m1 < 2 ^ 40) ∧ (0 < c1 ∧ c1 < 2 ^ 60) ∧ (0 < d1 ∧ d1 < 2 ^ 60) ∧ (0 < m2 ∧ m2 < 2 ^ 60) ∧ (0 < d2 ∧ d2 < 1073741824) ∧ (0 < e2 ∧ e2 < 2 ^ 60) ∧ (0 < d3 ∧ d3 < 1073741824) ∧ (0 < e3 ∧ e3 < 2 ^ 60) ∧ (0 < d4 ∧ d4 < 1073741824)
section
variable {K : PySem.W.Frag} {p q : Addr} {n a b c d : Int} {ms : List Int} {H H0 : Hp} {σ : L2.St}
structure HS (p q : Addr) (n : Int) (H0 : Hp) (x2 x3 x4 : Option V) (a b c d : Int) (ms : List Int) (σ : L2.St) (H : Hp) : Prop where
  s : σ = [some (.ref p), some (.int n), x2, x3, x4]
  hp : H p = some (.lst [.ref q, .int a, .int b, .int c, .int d])
  hq : H q = some (.lst (ms.map V.int))
  a0 : 0 ≤ a
  b0 : 0 ≤ b
  c0 : 0 ≤ c ∧ c < 2 ^ 40
  m0 : ∀ m ∈ ms, 0 ≤ m
  rest : ∀ x, x ≠ p → H x = H0 x
variable {x2 x3 x4 : Option V}
theorem HS.v0 (h : HS p q n H0 x2 x3 x4 a b c d ms σ H) : σ[0]? = some (some (.ref p)) := by rw [h.s]; rfl
theorem HS.v1 (h : HS p q n H0 x2 x3 x4 a b c d ms σ H) : σ[1]? = some (some (.int n)) := by rw [h.s]; rfl
theorem HS.i1 (h : HS p q n H0 x2 x3 x4 a b c d ms σ H) : IE σ H (hI K 1) a := fun Q z => ⟨_, h.v0, p, _, 1, _, rfl, rfl, SqL.of h.hp, rfl, z⟩
theorem HS.i2 (h : HS p q n H0 x2 x3 x4 a b c d ms σ H) : IE σ H (hI K 2) b := fun Q z => ⟨_, h.v0, p, _, 2, _, rfl, rfl, SqL.of h.hp, rfl, z⟩
theorem HS.i3 (h : HS p q n H0 x2 x3 x4 a b c d ms σ H) : IE σ H (hI K 3) c := fun Q z => ⟨_, h.v0, p, _, 3, _, rfl, rfl, SqL.of h.hp, rfl, z⟩
theorem HS.i4 (h : HS p q n H0 x2 x3 x4 a b c d ms σ H) : IE σ H (hI K 4) d := fun Q z => ⟨_, h.v0, p, _, 4, _, rfl, rfl, SqL.of h.hp, rfl, z⟩
theorem HS.len (h : HS p q n H0 x2 x3 x4 a b c d ms σ H) : IE σ H (tCB (rLenS K) (L2.tCons (hI K 0) L2.tNil)) (ms.length : Int) := fun Q z =>
  ⟨_, h.v0, p, _, 0, .ref q, rfl, rfl, SqL.of h.hp, rfl, q, _, rfl, .inl (SqL.of h.hq), by rw [List.length_map]; exact z⟩
theorem HS.cell (h : HS p q n H0 x2 x3 x4 a b c d ms σ H) (ha : a < ms.length) : ∃ m ∈ ms, IE σ H (tOp (rIxL K) (hI K 0) (hI K 1)) m := by
  obtain ⟨k, rfl⟩ := Int.eq_ofNat_of_zero_le h.a0
  have hk : k < ms.length := by omega
  refine ⟨ms[k], List.getElem_mem hk, fun Q z => ⟨_, h.v0, p, _, 0, .ref q, rfl, rfl, SqL.of h.hp, rfl, ?_⟩⟩
  refine HS.i1 h _ ⟨q, ms.map V.int, (k : Int), .int ms[k], rfl, rfl, SqL.of h.hq, ?_, z⟩
  exact atI_nat (by rw [List.getElem?_map, List.getElem?_eq_getElem hk]; rfl)
theorem HS.ne (h : HS p q n H0 x2 x3 x4 a b c d ms σ H) : q ≠ p := fun e => by
  have := h.hq
  rw [e, h.hp] at this
  cases ms with
  | nil => cases this
  | cons m r => cases this
theorem HS.set2 (h : HS p q n H0 x2 x3 x4 a b c d ms σ H) (v : V) : HS p q n H0 (some v) x3 x4 a b c d ms (σ.set 2 (some v)) H := ⟨by rw [h.s]; rfl, h.hp, h.hq, h.a0, h.b0, h.c0, h.m0, h.rest⟩
theorem HS.set3 (h : HS p q n H0 x2 x3 x4 a b c d ms σ H) (v : V) : HS p q n H0 x2 (some v) x4 a b c d ms (σ.set 3 (some v)) H := ⟨by rw [h.s]; rfl, h.hp, h.hq, h.a0, h.b0, h.c0, h.m0, h.rest⟩
theorem HS.set4 (h : HS p q n H0 x2 x3 x4 a b c d ms σ H) (v : V) : HS p q n H0 x2 x3 (some v) a b c d ms (σ.set 4 (some v)) H := ⟨by rw [h.s]; rfl, h.hp, h.hq, h.a0, h.b0, h.c0, h.m0, h.rest⟩
theorem HS.up (h : HS p q n H0 x2 x3 x4 a b c d ms σ H) {a' b' c' d' : Int} (ha : 0 ≤ a') (hb : 0 ≤ b') (hc : 0 ≤ c' ∧ c' < 2 ^ 40) : HS p q n H0 x2 x3 x4 a' b' c' d' ms σ (L2.upd H p (.lst [.ref q, .int a', .int b', .int c', .int d'])) :=
  ⟨h.s, upd_same, by rw [upd_ne h.ne]; exact h.hq, ha, hb, hc, h.m0, fun x hx => by rw [upd_ne hx]; exact h.rest x hx⟩
theorem hset {te : TE} {i : Int} {D : Ends} {k : Nat} {xs : List V} (h0 : σ[0]? = some (some (.ref p))) (hp : H p = some (.lst xs)) (he : IE σ H te i) (hk : k < xs.length) (h : D.nx σ (L2.upd H p (.lst (xs.set k (.int i))))) : hSet (k : Int) te D σ H := by
  refine he _ ⟨_, h0, p, xs, (k : Int), k, rfl, rfl, hp, ?_, h⟩
  unfold ixN
  rw [if_pos (by omega), if_pos (by omega)]
  rfl
theorem fmod_in {i m : Int} (h : 0 < m) : 0 ≤ i.fmod m ∧ i.fmod m < m := ⟨Int.fmod_nonneg_of_pos i h, Int.fmod_lt_of_pos i h⟩
end
end DL

namespace DL
open PySem PySem.Spec PyProof.Rows L2 PySem.W

section
variable {K : PySem.W.Frag} {p q : Addr} {n a b c d : Int} {ms : List Int} {H H0 : Hp} {σ : L2.St} {tx : TE} {m0 c0 m1 c1 d1 m2 d2 c2 e2 m3 d3 e3 m4 d4 : Int}
theorem st_if {tt : TT} {t u : TS} {D : Ends} {b : Bool} (h : BE σ H tt b) (h1 : b = true → t D σ H) (h2 : b = false → u D σ H) : tIfS tt t u D σ H := by
  refine h _ ?_
  cases b with
  | true => rw [if_pos rfl]; exact h1 rfl
  | false => rw [if_neg (by decide)]; exact h2 rfl
theorem st_set {te : TE} {i : Int} {k : Nat} {D : Ends} (he : IE σ H te i) (h : D.nx (σ.set k (some (.int i))) H) : tAsg te (gName k) D σ H := he _ h
theorem st_seq {t u : TS} {D : Ends} (h : t { D with nx := u D } σ H) : tSeq t u D σ H := h
theorem drawA (hok : okA m0 c0 m1 c1 d1 m2 d2 c2 e2 m3 d3 e3 m4 d4) (hx : ∀ (σ : L2.St) (H : Hp) (v : Int), σ[2]? = some (some (.int v)) → ∃ e, IE σ H tx e) (S : HS p q n H0 none none none a b c d ms σ H) (hn : 0 < n ∧ n < 1073741824) (D : Ends)
    (hr : ∀ r H' a b c d, 0 ≤ r → r < n → H' p = some (.lst [.ref q, .int a, .int b, .int c, .int d]) → H' q = some (.lst (ms.map V.int)) → 0 ≤ a → 0 ≤ b → (0 ≤ c ∧ c < 2 ^ 40) → (∀ x, x ≠ p → H' x = H0 x) → D.rt (.int r) H') :
    tDrawA K tx m0 c0 m1 c1 d1 m2 d2 c2 e2 m3 d3 e3 m4 d4 D σ H := by
  obtain ⟨k1, k2, k3, k4, k5, k6, k7, k8, k9, k10⟩ := hok
  have dv : ∀ {j : Int}, 0 < j → j < 1073741824 → ∀ i : Int, CDivN i j := fun {j} h1 h2 i => ⟨by omega, by omega⟩
  have two : (2 : Int) ^ 40 < 2 ^ 64 := by decide
  have two' : (2 : Int) ^ 60 < 2 ^ 64 := by decide
  have mr : ∀ (i : Int) {j : Int}, 0 < j → j < 2 ^ 60 → CMul i j := fun i j h1 h2 => .inr ⟨by omega, by omega⟩
  have ml : ∀ (i : Int) {j : Int}, 0 < j → j < 2 ^ 60 → CMul j i := fun i j h1 h2 => .inl ⟨by omega, by omega⟩
  -- the second part
  have back : ∀ x2 a b c σ H, HS p q n H0 x2 none none a b c d ms σ H → (tSeq (tIfS (tB (tGt (hI K 2) (tC (.int 0))))
    (tSeq (tAsg (tOp oR (tInt (hI K 2)) (tVar 1)) (gName 3)) (tSeq (hSet 2 (tOp oD (hI K 2) (tVar 1))) (tRet (tVar 3)))) tNext)
  (tSeq (hSet 4 (tOp oA (hI K 4) (tC (.int 1))))
  (tSeq (tAsg (tOp oR (tInt (tOp oM (tInt (tOp oA (hI K 3) (tOp oM (tC (.int c1)) (hI K 4)))) (tC (.int d1)))) (tC (.int m2))) (gName 4))
  (tSeq (tAsg (tOp oR (tInt (tOp oM (tVar 4) (tOp oA (tOp oD (tVar 4) (tC (.int d2))) (tC (.int c2))))) (tC (.int e2))) (gName 4))
  (tSeq (tAsg (tOp oR (tInt (tOp oM (tVar 4) (tOp oA (tOp oD (tVar 4) (tC (.int d3))) (tC (.int m3))))) (tC (.int e3))) (gName 4))
    (tRet (tOp oR (tInt (tOp oD (tVar 4) (tC (.int d4)))) (tVar 1)))))))) D σ H := by
    intro x2 a b c σ H S
    refine st_seq (st_if (be_cmp S.i2 ie_c) (fun hb => ?_) fun _ => ?_)
    · refine st_seq (st_set (ie_1 (ie_int S.i2) (ie_var S.v1) (by omega)) ?_)
      have S3 := S.set3 (.int (b.fmod n))
      refine st_seq (hset S3.v0 S3.hp (ie_1 S3.i2 (ie_var S3.v1) (dv hn.1 hn.2 b)) (k := 2) (show 2 < 5 by decide) ?_)
      have hb0 : 0 ≤ b.fdiv n := Int.fdiv_nonneg S.b0 (by omega)
      have S4 := S3.up (d' := d) S.a0 hb0 S.c0
      obtain ⟨r0, r1⟩ := fmod_in (i := b) hn.1
      exact ⟨_, by rw [S3.s]; rfl, hr _ _ _ _ _ _ r0 r1 S4.hp S4.hq S.a0 hb0 S.c0 S4.rest⟩
    · refine st_seq (hset S.v0 S.hp (ie_0 S.i4 ie_c) (k := 4) (show 4 < 5 by decide) ?_)
      have S1 := S.up (d' := d + 1) S.a0 S.b0 S.c0
      show tSeq _ _ D σ (L2.upd H p (.lst [.ref q, .int a, .int b, .int c, .int (d + 1)]))
      refine st_seq (st_set (ie_1 (ie_int (ie_1 (ie_int (ie_0 S1.i3 (ie_1 ie_c S1.i4 (ml _ k3.1 k3.2)))) ie_c (mr _ k4.1 k4.2))) ie_c (by omega)) ?_)
      obtain ⟨n0, n1⟩ := fmod_in (i := (c + c1 * (d + 1)) * d1) k5.1
      generalize ((c + c1 * (d + 1)) * d1).fmod m2 = u at n0 n1 ⊢
      have S2 := S1.set4 (.int u)
      have v4 : (σ.set 4 (some (.int u)))[4]? = some (some (.int u)) := by rw [S.s]; rfl
      refine st_seq (st_set (ie_1 (ie_int (ie_1 (ie_var v4) (ie_0 (ie_1 (ie_var v4) ie_c (dv k6.1 k6.2 _)) ie_c) (.inl ⟨by omega, by omega⟩))) ie_c (by omega)) ?_)
      obtain ⟨n2, n3⟩ := fmod_in (i := u * (u.fdiv d2 + c2)) k7.1
      generalize (u * (u.fdiv d2 + c2)).fmod e2 = u2 at n2 n3 ⊢
      have S5 := S2.set4 (.int u2)
      have v5 : ((σ.set 4 (some (.int u))).set 4 (some (.int u2)))[4]? = some (some (.int u2)) := by rw [S.s]; rfl
      refine st_seq (st_set (ie_1 (ie_int (ie_1 (ie_var v5) (ie_0 (ie_1 (ie_var v5) ie_c (dv k8.1 k8.2 _)) ie_c) (.inl ⟨by omega, by omega⟩))) ie_c (by omega)) ?_)
      generalize (u2 * (u2.fdiv d3 + m3)).fmod e3 = u3
      have S6 := S5.set4 (.int u3)
      have v6 : (((σ.set 4 (some (.int u))).set 4 (some (.int u2))).set 4 (some (.int u3)))[4]? = some (some (.int u3)) := by rw [S.s]; rfl
      refine (ie_1 (ie_int (ie_1 (ie_var v6) ie_c (dv k10.1 k10.2 _))) (ie_var S6.v1) (by omega)) _ ?_
      obtain ⟨r0, r1⟩ := fmod_in (i := u3.fdiv d4) hn.1
      exact hr _ _ _ _ _ _ r0 r1 S6.hp S6.hq S.a0 S.b0 S.c0 S6.rest
  refine st_seq (st_if (be_and (be_cmp S.i2 ie_c) fun _ => be_cmp S.i1 S.len) (fun hb => ?_) fun _ => back _ _ _ _ _ _ S)
  have ha : a < ms.length := by
    rw [Bool.and_eq_true] at hb
    exact of_decide_eq_true hb.2
  obtain ⟨m, hm, hc⟩ := S.cell ha
  refine st_seq (st_set hc ?_)
  have S1 := S.set2 (.int m)
  refine st_seq (hset S1.v0 S1.hp (ie_0 S1.i1 ie_c) (k := 1) (show 1 < 5 by decide) ?_)
  have a1 : 0 ≤ a + 1 := by have := S.a0; omega
  have S2 := S1.up (d' := d) a1 S.b0 S.c0
  show tSeq _ _ _ _ (L2.upd H p (.lst [.ref q, .int (a + 1), .int b, .int c, .int d]))
  have v2 : (σ.set 2 (some (.int m)))[2]? = some (some (.int m)) := by rw [S.s]; rfl
  obtain ⟨e, he⟩ := hx _ (L2.upd H p (.lst [.ref q, .int (a + 1), .int b, .int c, .int d])) _ v2
  refine st_seq (hset S2.v0 S2.hp (ie_1 (ie_int (ie_0 (ie_0 (ie_1 S2.i3 ie_c (mr _ k1.1 k1.2)) he) ie_c)) ie_c (by omega)) (k := 3) (show 3 < 5 by decide) ?_)
  obtain ⟨n0, n1⟩ := fmod_in (i := c * m0 + e + c0) k2.1
  generalize (c * m0 + e + c0).fmod m1 = cc at n0 n1 ⊢
  have S3 := S2.up (d' := d) a1 S.b0 ⟨n0, by omega⟩
  refine st_if (be_cmp (ie_var v2) (ie_1 ie_c ie_c ⟨by decide, by decide, by decide⟩)) (fun _ => ?_) fun _ => ?_
  · refine hset S3.v0 S3.hp (ie_var v2) (k := 2) (show 2 < 5 by decide) ?_
    exact back _ _ _ _ _ _ (S3.up (d' := d) a1 (S.m0 m hm) ⟨n0, by omega⟩)
  · exact back _ _ _ _ _ _ S3
end
/-- the promise of a drawing def -/
theorem pure_drawA {T : List (Addr × Str)} {K : PySem.W.Frag} {N : List Str} {tx : TE} {m0 c0 m1 c1 d1 m2 d2 c2 e2 m3 d3 e3 m4 d4 : Int} (hN : N.length = 5) (hok : okA m0 c0 m1 c1 d1 m2 d2 c2 e2 m3 d3 e3 m4 d4) (hx : ∀ (σ : L2.St) (H : Hp) (v : Int), σ[2]? = some (some (.int v)) → ∃ e, IE σ H tx e) :
    ∀ hd Pp H vs rs Q0, J ⟨K, (hvA T)⟩ hd Pp H → RepVs ⟨K, (hvA T)⟩ hd Pp H vs rs → sp_draw rs Q0 → ∀ Q : VK, (∀ r, Q0 r → ∀ v hd' P' H', Grow ⟨K, (hvA T)⟩ hd Pp H hd' P' H' → RepV ⟨K, (hvA T)⟩ hd' P' H' v r → Q v H') →
      tDrawA K tx m0 c0 m1 c1 d1 m2 d2 c2 e2 m3 d3 e3 m4 d4 { nx := fun _ H' => Q .non H', rt := Q } (L2.start N vs) H := by
  intro hd Pp H vs rs Q0 j r sp Q kk
  match rs, sp with
  | [x, y], sp =>
    obtain ⟨rfl, n, rfl, h1, h2, hq⟩ := sp
    cases r with
    | cons r1 r2 =>
      cases r2 with
      | cons r2 r3 =>
        cases r3
        obtain ⟨pq, ehd, rfl⟩ := r1
        cases r2
        have hi := j.hand.i
        rw [ehd] at hi
        obtain ⟨ne, ns, ms, hp, hqq, a, b, c, d, rfl, ha, hb, hc, hm⟩ := hi
        have S : HS pq.1 pq.2 n H none none none a b c d ms (L2.start N [.ref pq.1, .int n]) H := ⟨by unfold L2.start; rw [hN]; rfl, hp, hqq, ha, hb, hc, hm, fun _ _ => rfl⟩
        refine drawA hok hx S ⟨h1, h2⟩ _ fun r H' a' b' c' d' r0 r1 e1 e2 a0 b0 c0 rest => ?_
        have keep : ∀ x, ¬ hdA hd x → H' x = H x := fun x hx => rest x fun z => hx (.inl (by rw [ehd]; exact .inl z))
        have tb : LamX.Tabs hd.T H' := tabs_to j.hand.t fun b o e n => by
          rw [rest b fun z => by rw [z, hp] at e; cases e; exact n _ rfl]
          exact e
        refine kk _ (hq r r0 r1) _ hd Pp H' ⟨fun _ h => h, fun _ h => .inl h, fun x o h m => by rw [keep x m]; exact h, .inl rfl, ⟨fun x h => by rw [keep x (fun m => j.hnp x m h)]; exact j.ptr x h, ⟨by rw [ehd]; exact ⟨ne, [a', b', c', d'], ms, e1, e2, a', b', c', d', rfl, a0, b0, c0, hm⟩, tb, j.hand.e⟩, j.hnp⟩⟩ (Rep.int r)
end DL

namespace DL
open PySem PySem.Spec PyProof.Rows L2 PySem.W

/-! ### the hand is made -/
abbrev rAbs : List V → Hp → VK → Prop := fun xs H Q => ∃ i, xs = [.int i] ∧ Q (.int (if i < 0 then -i else i)) H
abbrev tCells (K : PySem.W.Frag) (s0 c0 : Nat) : TE := tLc (iList K (tSl (rSlL K) (tVar s0) tNoPart (tPart (tC (.int 63))))) (gName c0) L2.tYes (tCB rAbs (L2.tCons (tInt (tVar c0)) L2.tNil)) [c0]
def sp_hand (hv0 : Hv) (K : PySem.W.Frag) : Sp := fun vs H Q _ => ∃ a, ∃ ns : List Int, vs = [.ref a] ∧ SqL K H a (ns.map V.int) ∧ ns.length ≤ 63 ∧ ∀ p q (ns ms : List Int) H', H p = none → H q = none → p ≠ q → (∀ x o, H x = some o → H' x = some o) → H' p = some (.lst (.ref q :: ns.map V.int)) → H' q = some (.lst (ms.map V.int)) → hv0.ok ns ms → Q (.ref p) H'
theorem SqL.up {K : PySem.W.Frag} {H H' : Hp} {a : Addr} {xs : List V} (h : SqL K H a xs) (k : ∀ x o, H x = some o → H' x = some o) : SqL K H' a xs := by
  rcases h with h | h
  · rcases h with h | ⟨o, h⟩
    · exact .inl (.inl (k _ _ h))
    · exact .inl (.inr ⟨o, k _ _ h⟩)
  · exact .inr h
def cellsP (H : Hp) (p D : Addr) (ks : List Int) (i : Nat) (H' : Hp) : Prop := H' p = some (.lst (ks.map V.int)) ∧ (∀ x o, H x = some o → H' x = some o) ∧ ∃ ms : List Int, H' D = some (.lst (ms.map V.int)) ∧ ms.length = i ∧ ∀ m ∈ ms, 0 ≤ m
/-- the cells: a new list of numbers from 0 on -/
theorem cells_ok {K : PySem.W.Frag} {σ : L2.St} {H : Hp} {s0 c0 : Nat} {a : Addr} {ns : List Int} {Q : VK} (h0 : σ[s0]? = some (some (.ref a))) (hc : c0 < σ.length) (hS : SqL K H a (ns.map V.int)) (hl : ns.length ≤ 63)
    (k : ∀ q (ms : List Int) H', H q = none → (∀ x o, H x = some o → H' x = some o) → H' q = some (.lst (ms.map V.int)) → ms.length ≤ 63 → (∀ m ∈ ms, 0 ≤ m) → Q (.ref q) H') : tCells K s0 c0 σ H Q := by
  refine ⟨_, h0, ⟨63, rfl, a, _, rfl, hS, fun p hp => ?_⟩⟩
  have ec : ∃ ks : List Int, cutV (ns.map V.int) none (some 63) = ks.map V.int ∧ ks.length ≤ 63 := by
    refine ⟨(ns.drop (HT.sIx (ns.map V.int).length 0 none)).take (HT.sIx (ns.map V.int).length (ns.map V.int).length (some 63) - HT.sIx (ns.map V.int).length 0 none), ?_, ?_⟩
    · unfold cutV
      rw [← List.map_drop, ← List.map_take]
    · rw [List.length_take, List.length_drop]
      omega
  obtain ⟨ks, ec, el⟩ := ec
  rw [ec]
  refine ⟨p, rfl, ⟨_, SqL.of upd_same⟩, fun D hD => ?_⟩
  have hDp : D ≠ p := fun z => by rw [z, upd_same] at hD; cases hD
  have hDn : H D = none := by rw [upd_ne hDp] at hD; exact hD
  have wk : Walk (Itl K p) ks.length (fun H => SqL K H p (ks.map V.int)) (YAt (ks.map V.int)) := by
    have w := walk_list (K := K) (a := p) (xs := ks.map V.int)
    rw [List.length_map] at w
    exact w
  refine lc_it wk (cellsP H p D ks) ?_ (fun i H' _ h => SqL.of h.1) (fun i x H1 H2 hi h y => ?_) (fun H' h => ?_)
  · refine ⟨by rw [upd_ne (Ne.symm hDp), upd_same], fun x o e => ?_, [], by rw [upd_same]; rfl, rfl, by simp⟩
    have h1 : x ≠ D := fun z => by rw [z, hDn] at e; cases e
    have h2 : x ≠ p := fun z => by rw [z, hp] at e; cases e
    rw [upd_ne h1, upd_ne h2]; exact e
  · obtain ⟨rfl, hx⟩ := y
    rw [List.getElem?_map] at hx
    cases ek : ks[i]? with
    | none => rw [ek] at hx; cases hx
    | some n =>
      rw [ek] at hx
      cases hx
      refine ⟨?_, ?_⟩
      · apply List.ext_getElem?
        intro j
        rw [wipe_get, wipe_get, List.length_set, wipe_length]
        by_cases hj : j ∈ [c0]
        · rw [if_pos hj, if_pos hj]
        · rw [if_neg hj, if_neg hj, List.getElem?_set_ne (fun z => hj (by rw [← z]; simp)), wipe_get, if_neg hj]
      · obtain ⟨h1, h2, ms, h3, h4, h5⟩ := h
        refine iteT (B := cellsP H p D ks (i + 1) H2) ⟨_, List.getElem?_set_self (by rw [wipe_length]; exact hc), .inl ⟨n, rfl, n, rfl, ?_⟩⟩
        refine ⟨_, h3, by rw [List.length_map, h4]; exact Nat.lt_of_lt_of_le hi (Nat.le_trans el (by decide)), ?_, fun x o e => ?_, ms ++ [if n < 0 then -n else n], ?_, by rw [List.length_append, h4]; rfl, fun m hm => ?_⟩
        · rw [upd_ne (Ne.symm hDp)]; exact h1
        · have : x ≠ D := fun z => by rw [z, hDn] at e; cases e
          rw [upd_ne this]; exact h2 x o e
        · rw [upd_same, List.map_append]; rfl
        · rcases List.mem_append.mp hm with hm | hm
          · exact h5 m hm
          · rw [List.mem_singleton.mp hm]; split <;> omega
  · obtain ⟨h1, h2, ms, h3, h4, h5⟩ := h
    exact k D ms H' hDn h2 h3 (by rw [h4]; exact el) h5
def tHandA (K : PySem.W.Frag) (te : TE) : TS := tSeq (tAsg (tCells K 0 2) (gName 1)) (tRet (tLst (L2.tCons (tVar 1) (L2.tCons (tC (.int 0)) (L2.tCons (tC (.int 0)) (L2.tCons te (L2.tCons (tC (.int 0)) L2.tNil)))))))
theorem pure_handA {T : List (Addr × Str)} {K : PySem.W.Frag} {N : List Str} {te : TE} (hN : N.length = 3) (he : ∀ (σ : L2.St) (H : Hp) l (xs : List V), σ[1]? = some (some (.ref l)) → H l = some (.lst xs) → xs.length ≤ 63 → ∃ c, IE σ H te c ∧ 0 ≤ c ∧ c < 2 ^ 40) (vs : List V) (H : Hp) (Q : VK) (E : XK) (h : sp_hand (hvA T) K vs H Q E) :
    tHandA K te { nx := fun _ H' => Q .non H', rt := Q } (L2.start N vs) H := by
  obtain ⟨a, ns, rfl, hS, hl, k⟩ := h
  have es : L2.start N [V.ref a] = [some (.ref a), none, none] := by unfold L2.start; rw [hN]; rfl
  rw [es]
  refine st_seq ?_
  unfold tAsg
  refine cells_ok (K := K) (σ := [some (.ref a), none, none]) (s0 := 0) (c0 := 2) (a := a) rfl (show 2 < 3 by decide) hS hl fun q ms H' hq hk hq' hlen hm => ?_
  obtain ⟨c, ie, c0, c1⟩ := he [some (.ref a), some (.ref q), none] H' q _ rfl hq' (by rw [List.length_map]; exact hlen)
  refine ⟨_, rfl, ie _ ⟨show 5 ≤ sizeLine by decide, fun p hp => ?_⟩⟩
  have hpq : p ≠ q := fun z => by rw [z, hq'] at hp; cases hp
  have hpn : H p = none := by
    cases e : H p with
    | none => rfl
    | some o => rw [hk p o e] at hp; cases hp
  refine k p q [0, 0, c, 0] ms _ hpn hq hpq (fun x o e => ?_) upd_same (by rw [upd_ne (Ne.symm hpq)]; exact hq') ⟨0, 0, c, 0, rfl, Int.le_refl _, Int.le_refl _, ⟨c0, c1⟩, hm⟩
  have : x ≠ p := fun z => by rw [z, hpn] at e; cases e
  rw [upd_ne this]; exact hk x o e
end DL
namespace DL
open PySem PySem.Spec PyProof.Rows L2 PySem.W
theorem ie_lenv {K : PySem.W.Frag} {σ : L2.St} {H : Hp} {k : Nat} {l : Addr} {xs : List V} (h : σ[k]? = some (some (.ref l))) (hl : H l = some (.lst xs)) : IE σ H (tCB (rLenS K) (L2.tCons (tVar k) L2.tNil)) (xs.length : Int) := fun Q z => ⟨_, h, l, xs, rfl, .inl (SqL.of hl), z⟩
end DL

namespace DL
open PySem PySem.Spec PyProof.Rows L2 PySem.W

/-! ### the law itself -/
def sp_law (K : PySem.W.Frag) (T : List (Addr × Str)) : Sp := fun vs H Q _ => ∃ a, ∃ ns : List Int, vs = [.ref a] ∧ SqL K H a (ns.map V.int) ∧ ns.length ≤ 63 ∧ LamX.Tabs T H ∧ ∀ H', Q (.bl true) H'
def gam1 (n : Nat) : Gam := .non :: .pl .hand :: List.replicate (n - 2) .non
def kTrue : DK := { nx := fun _ => False, rt := fun t => t = bv true }
def Law (n : Nat) (m : FS) : Prop := m (gam1 n) kTrue
/-- the def that makes the hand -/
def HandFn (hv0 : Hv) (P : Program) (w : World) (K : PySem.W.Frag) (mg : Str → Option Value) (base : Heap) (x p : Str) : Prop :=
  ∃ f fd, mg x = some (.ref f) ∧ PySem.W.keepIn K (.ref f) = true ∧ Binds K fd [p] [] ∧ FnG P w K mg base 1 f fd [p] (sp_hand hv0 K)
section
variable {hv0 : Hv} {P : Program} {w : World} {K : PySem.W.Frag} {mg : Str → Option Value} {base : Heap} {k : Nat} {x y : Str} {st : Stmt} {N : List Str} {m : FS} {t : TS}
theorem hand_fn {ps : Str} (D : Defd K mg x st) (S : FnScope N [ps] (defScope st))
    (hb : ∀ (kV doc pm : Value) (an : Option Addr) (cdv ct : Value) (us : List Value), us.length = [ps].length → bindArgs (PySem.W.fnOf x x (defArgs st) (defBody st) (defScope st) .none kV doc pm an cdv ct) ⟨us, []⟩ = pure ([ps].zip us))
    (body : ∀ (f : Addr) (cdv : Value) (A : Around) (outer : List Env) (s : Shared) (H : Hp) (E : XK), Room 0 (A.deeper (envOfC x (defScope st) s.heap.objs.size f cdv)) →
      PSs (cxOf CX0 P w K mg base N x (defScope st) f cdv A outer s H E).nox (defBody st) t)
    (pure : ∀ vs H Q E, sp_hand hv0 K vs H Q E → t { nx := fun _ H' => Q .non H', rt := Q } (L2.start N vs) H) : HandFn hv0 P w K mg base x ps := by
  obtain ⟨f, fd, hm, F⟩ := D
  refine ⟨f, fd, hm, F.kp, F.bindsN hb, ?_⟩
  obtain ⟨oc, od, dV, kV, doc, pm, an, cdv, ct, osl, rfl, lk, hcd, _, _⟩ := F.ex
  refine fng_of (N := N) lk hcd S ?_ fun A outer s H vs Q E hr hg h => ⟨_, body f cdv A outer s H E hr, pure vs H Q E h⟩
  rintro vs H Q E ⟨a, ns, rfl, _⟩
  rfl
theorem law_fn {rest : List Stmt} {s1 : Stmt} {f : Addr} {fd : FuncData} (F : FunD K x x (defArgs st) (defBody st) (defScope st) [] [] f fd) (S : FnScope N ["script"] (defScope st)) (hN : 2 ≤ N.length) (hbd : defBody st = s1 :: rest)
    (body1 : ∀ (cdv : Value) (A : Around) (outer : List Env) (s : Shared) (H : Hp) (E : XK), Room k (A.deeper (envOfC x (defScope st) s.heap.objs.size f cdv)) → (A.deeper (envOfC x (defScope st) s.heap.objs.size f cdv)).guards = some [] →
      PS (cxOf CX0 P w K mg base N x (defScope st) f cdv A outer s H E).nox s1 (tAsg (tCall (sp_hand hv0 K) [] E0 (L2.tCons (tVar 0) L2.tNil)) (gName 1)))
    (body : ∀ (cdv : Value) (A : Around) (outer : List Env) (s : Shared) (H : Hp) (E : XK), Room k (A.deeper (envOfC x (defScope st) s.heap.objs.size f cdv)) → (A.deeper (envOfC x (defScope st) s.heap.objs.size f cdv)).guards = some [] →
      DSs hv0 (cxOf CX0 P w K mg base N x (defScope st) f cdv A outer s H E).nox rest m)
    (holds : Law N.length m) : FnG P w K mg base (k + 1) f fd ["script"] (sp_law K hv0.T) := by
  obtain ⟨oc, od, dV, kV, doc, pm, an, cdv, ct, osl, rfl, lk, hcd, _, _⟩ := F.ex
  refine fng_of (N := N) lk hcd S ?_ fun A outer s H vs Q E hr hg h => ⟨_, by rw [hbd]; exact pss_cons (body1 cdv A outer s H E hr hg) (body cdv A outer s H E hr hg), ?_⟩
  · rintro vs H Q E ⟨a, ns, rfl, _⟩
    rfl
  · obtain ⟨a, ns, rfl, hS, hl, hT, hQ⟩ := h
    have e0 : L2.start N [V.ref a] = some (.ref a) :: none :: List.replicate (N.length - 2) none := by
      unfold L2.start
      have e : N.length - 1 = (N.length - 2) + 1 := by omega
      show some (V.ref a) :: List.replicate (N.length - 1) none = _
      rw [e, List.replicate_succ]
    show tAsg _ _ _ (L2.start N [V.ref a]) H
    rw [e0]
    refine ⟨_, rfl, a, ns, rfl, hS, hl, fun p q xs ms H' hp hq hpq hk e1 e2 hv => ?_⟩
    have j : J ⟨K, hv0⟩ ⟨some (p, q), hv0.T⟩ (fun _ => False) H' := ⟨fun _ z => z.elim, ⟨⟨hpq, xs, ms, e1, e2, hv⟩, hT.ext hk, rfl⟩, fun _ _ z => z⟩
    have key : ∀ (i : Nat) s, (gam1 N.length)[i]? = some s → s = .non ∨ (i = 1 ∧ s = .pl .hand) := fun i s e => by
      unfold gam1 at e
      match i, e with
      | 0, e => exact .inl (Option.some.inj e).symm
      | 1, e => exact .inr ⟨rfl, (Option.some.inj e).symm⟩
      | i + 2, e =>
        rw [List.getElem?_cons_succ, List.getElem?_cons_succ] at e
        exact .inl (List.eq_of_mem_replicate (List.mem_of_getElem? e))
    have St : Sta ⟨K, hv0⟩ (gam1 N.length) (some (.ref a) :: some (.ref p) :: List.replicate (N.length - 2) none) ⟨some (p, q), hv0.T⟩ (fun _ => False) H' := by
      refine ⟨by unfold gam1; simp, fun i r e => ?_, fun i ds e => ?_, fun i ds e => ?_, fun u v s1 t1 z ea eb oa ob _ _ => ?_, j⟩
      · rcases key i _ e with z | ⟨rfl, z⟩
        · cases z
        · cases z; exact ⟨_, rfl, (p, q), rfl, rfl⟩
      · rcases key i _ e with z | ⟨_, z⟩ <;> cases z
      · rcases key i _ e with z | ⟨_, z⟩ <;> cases z
      · rcases key u _ ea with z | ⟨_, z⟩ <;> (rw [z] at oa; cases oa)
    refine ⟨⟨⟨some (p, q), hv0.T⟩, fun _ => False, H'⟩, gam1 N.length, ⟨some (p, q), hv0.T⟩, _, kTrue, ⟨St, j.refl, j, fun i s z e o _ => ?_⟩, holds, ⟨fun _ z => z.elim, fun _ z => z.elim, fun _ z => z.elim, fun t qt v hd' P' H2 _ r => ?_⟩⟩
    · rcases key i _ e with z | ⟨_, z⟩ <;> (rw [z] at o; cases o)
    · have qt : t = bv true := qt
      subst qt
      cases r
      exact hQ H2
theorem ps_hand {X : Cx} {pos pos' p1 p2 : Pos} {fs : Str} (F : HandFn hv0 X.prog X.w X.K X.mg X.base y fs) (hr : Room 1 X.A) (hgd : X.A.guards = some []) (hN : X.N.Nodup) {z : Str} {a0 : Expr} (ha : PE X a0 (tVar 0)) (hi : X.N[1]? = some z := by rfl) (hx : Loc X.env.scope z := by first | exact .inl rfl | exact .inr rfl) (hg : Gl X y := by rfl) (hdb : (y == ("__debug__" : Str)) = false := by decide)
    (hs0 : starEach [a0] X.env = (false, eval a0 X.env) :: starEach [] X.env := by rfl) (hpl : (backTo p2 (starEach [] X.env)).any (·.1) = false := by rfl)
    (hs : swapsWith (.Call (.Name y p1) [a0] [] p2) (some (.Name z pos')) pos.line X.env = pure false := by rfl) (hf : X.fn z = true ∨ X.env.scope.names.lookup z = some .local := by first | exact .inl rfl | exact .inr rfl) :
    PS X (.Assign [.Name z pos'] (.Call (.Name y p1) [a0] [] p2) pos) (tAsg (tCall (sp_hand hv0 X.K) [] E0 (L2.tCons (tVar 0) L2.tNil)) (gName 1)) := by
  obtain ⟨f, fd, h1, h2, h3, h4⟩ := F
  exact ps_set hN hi hx (pe_callG h4 hr hgd hg h1 h2 h3 (pa_cons ha pa_nil hs0) hdb hs0 hpl) hs hf
end
/-! ### its end -/
/-- nothing is tracked but the script and the tables -/
def OnlyT (T : List Addr) (H : Hp) : Prop := ∀ b, H b = none ∨ b ∈ T ∨ ∃ o xs, H b = some (.frz o (.lst xs))
theorem law_callG {P : Program} {w : World} {K : PySem.W.Frag} {mg mb : Str → Option Value} {k : Nat} {fa a : Addr} {cs : List (Addr × Addr)} {fd : FuncData} {x : Str} {sp : Sp} {s₁ : Shared} {vs : List Value} {ns : List Int}
    (KX : K.In s₁.heap) (hns : s₁.heap.Ns mainGlobals mg) (hb : s₁.heap.Ns builtinsNs mb) (hbb : ∀ x : Str, x ≠ "__name__" → mb x = bootBuiltins x) (hlim : s₁.heap.NoLimit) (hg : s₁.gens = #[])
    (tabs : ∀ q ∈ cs, s₁.heap.get? q.2 = some { cls := .none, data := .fields #[] }) (tabK : ∀ q ∈ cs, K.lookup q.2 = none) (codes : ∀ q ∈ cs, PySem.W.CodeHd s₁.heap q.1 q.2)
    (mods : ∃ (bm : Addr) (ob : Obj), mg "__builtins__" = some (.ref bm) ∧ bm ≠ builtinsNs ∧ s₁.heap.get? bm = some ob ∧ ob.cls = .type "module" ∧ ob.dict = some builtinsNs ∧ ob.data = .plain)
    (ha : s₁.heap.get? a = some { cls := .type "list", data := .seq vs.toArray }) (hi : IntsAre vs ns) (hl : ns.length ≤ sizeLine) (hr : Room k callerA)
    (F : ∀ base : Heap, K.In base → base.Ns mainGlobals mg → (∀ q ∈ cs, LamX.TabB base mg q.1 q.2) → FnG P w K mg base k fa fd [x] sp) (hbind : ∀ (s : Shared) (u : Value), BindsTo s fd ⟨[u], []⟩ [(x, u)])
    (hsp : ∀ H : Hp, (∀ q ∈ cs, H q.2 = some (.tbl #[])) → SqL K H a (ns.map V.int) → sp [.ref a] H (fun v _ => v = .bl true) fun _ _ _ => False) :
    codeAny (model P w) callerA (.call (.ref fa) ⟨[.ref a], []⟩) (fun r s' => r = .ok (.ret (.bool true)) ∧ OldK s₁.heap s'.heap ∧ s'.os = s₁.os ∧ AllBare s'.gens) s₁ := by
  have vals := vals_ints hi
  have many := hi.length
  have tabAt : ∀ b : Addr, b ∈ cs.map (·.2) → s₁.heap.get? b = some { cls := .none, data := .fields #[] } := by
    intro b hb0
    obtain ⟨q, hq, rfl⟩ := List.mem_map.mp hb0
    exact tabs q hq
  have mem2 : ∀ q ∈ cs, q.2 ∈ cs.map (·.2) := fun q hq => List.mem_map.mpr ⟨q, hq, rfl⟩
  have notTab : a ∉ cs.map (·.2) := by
    intro hm
    have e1 := tabAt a hm
    rw [ha] at e1
    cases (show Data.seq vs.toArray _ = Data.fields #[] from congrArg Obj.data (Option.some.inj e1))
  have main : ∀ H : Hp, OnlyT (cs.map (·.2)) H → (∀ q ∈ cs, H q.2 = some (.tbl #[])) → SqL K H a (ns.map V.int) → HOk P w H s₁.heap → (∀ b, H b ≠ none → b = a ∨ b ∈ cs.map (·.2)) → (H a ≠ none → K.lookup a = none) →
      codeAny (model P w) callerA (.call (.ref fa) ⟨[.ref a], []⟩) (fun r s' => r = .ok (.ret (.bool true)) ∧ OldK s₁.heap s'.heap ∧ s'.os = s₁.os ∧ AllBare s'.gens) s₁ := by
    intro H only hTb seq hok at_a notK
    have untracked : ∀ {b : Addr} {o : Obj}, s₁.heap.get? b = some o → (∀ us n, o.data ≠ .seq us n) → o.data ≠ .fields #[] → H b = none := by
      intro b o e n1 n2
      cases hb0 : H b with
      | none => rfl
      | some u =>
        rcases at_a b (by rw [hb0]; simp) with e' | e'
        · subst e'
          rw [ha] at e
          cases e
          exact absurd rfl (n1 _ _)
        · rw [tabAt b e'] at e
          cases e
          exact absurd rfl n2
    have below : ∀ {b : Addr} {o : Obj}, s₁.heap.get? b = some o → (∀ us n, o.data ≠ .seq us n) → o.data ≠ .fields #[] → (hidT s₁.heap H).get? b = some o := fun e n1 n2 => hidT_get e (untracked e n1 n2)
    have names : ∀ {b : Addr} {m : Str → Option Value}, s₁.heap.Ns b m → (hidT s₁.heap H).Ns b m := by
      rintro b m ⟨o, es, ep, e, d, r⟩
      exact ⟨o, es, ep, below e (fun us n z => by rw [d] at z; cases z) (fun z => by rw [d] at z; cases z), d, r⟩
    have inb : K.In (hidT s₁.heap H) := by
      intro b o e
      refine hidT_get (KX b o e) ?_
      cases hb0 : H b with
      | none => rfl
      | some u =>
        rcases at_a b (by rw [hb0]; simp) with e' | e'
        · subst e'
          rw [notK (by rw [hb0]; simp)] at e
          cases e
        · obtain ⟨q, hq, rfl⟩ := List.mem_map.mp e'
          rw [tabK q hq] at e
          cases e
    have md : Mod K mg (hidT s₁.heap H) := ⟨inb, names hns, ⟨mb, names hb, hbb⟩, hlim.imp fun mc ⟨h1, h2⟩ => ⟨names h1, h2⟩⟩
    have tbs : ∀ q ∈ cs, LamX.TabB (hidT s₁.heap H) mg q.1 q.2 := by
      intro q hq
      have hq0 := tabs q hq
      obtain ⟨gO, gE, gP, gA, gD, _⟩ := hns
      constructor
      · obtain ⟨o, us, file, tf, flags, tg, inF, text, tt, e1, r1, r2, r3, r4, r5, r6, r7, r8, hne⟩ := codes q hq
        refine ⟨o, us, file, tf, flags, tg, inF, text, tt, below e1 (fun us n z => by rw [r2] at z; cases z) (fun z => ?_), r1, r2, r3, r4, r5, r6, r7, r8, hne⟩
        rw [r2] at z
        cases z
        simp at r3
      · obtain ⟨bm, ob, b1, b2, b3, b4, b5, b6⟩ := mods
        refine ⟨bm, ob, b1, b2, fun z => ?_, fun z => ?_, below b3 (fun us n z => by rw [b6] at z; cases z) (fun z => by rw [b6] at z; cases z), b4, b5, b6⟩
        · rw [z, gA] at b3
          cases b3
          rw [gD] at b6
          cases b6
        · rw [z, hq0] at b3
          cases b3
          cases b6
      · intro z
        rw [z, hq0] at gA
        cases gA
        cases gD
    have ent : Env0 P w K mg (hidT s₁.heap H) callerA [] s₁ H := ⟨rfl, md, fun b o e => of_hidT e, Nat.le_of_eq (hidT_size _ _), trivial, fun b hb => absurd (show b ∈ ([] : List Addr) from hb) (by simp), hok, .of_eq hg⟩
    refine codeAny_mono ((F _ inb (names hns) tbs).run callerA [] s₁ H ⟨[.ref a], []⟩ [.ref a] [.ref a] _ _ hr rfl ent (hbind s₁ (.ref a)) (.cons rfl .nil) (hsp H hTb seq)) ?_
    intro r s' got
    cases r with
    | error e => exact False.elim got
    | ok fl =>
      cases fl with
      | ret u =>
        obtain ⟨v, H', os, bare, un, hok', rv, q⟩ := got
        have q' : v = .bl true := q
        subst q'
        obtain rfl : u = Value.bool true := rv
        have stays : ∀ b o, b ∉ cs.map (·.2) → s₁.heap.get? b = some o → s'.heap.get? b = some o := by
          intro b o nb e
          cases hb0 : H b with
          | none => exact un.keep b o e hb0 (fun z => absurd (show b ∈ ([] : List Addr) from z) (by simp)) (by simp)
          | some u =>
            rcases only b with z | z | ⟨ob, xs, z⟩
            · rw [hb0] at z; cases z
            · exact absurd z nb
            · obtain ⟨e1, _⟩ := hok b _ z
              obtain ⟨e2, _⟩ := hok' b _ (un.frzs b ob _ z)
              rw [e] at e1
              cases e1
              exact e2
        have later : ∀ q ∈ cs, ∃ more : Array Value, s'.heap.get? q.2 = some { cls := .none, data := .fields more } := by
          intro q hq
          obtain ⟨more, z⟩ := un.tbls q.2 #[] (hTb q hq)
          exact ⟨_, hok' q.2 _ z⟩
        refine ⟨rfl, ⟨fun b o e => ?_, fun b o e => ?_⟩, os, bare⟩
        · by_cases hm : b ∈ cs.map (·.2)
          · obtain ⟨q, hq, rfl⟩ := List.mem_map.mp hm
            obtain ⟨more, hmo⟩ := later q hq
            rw [tabs q hq] at e
            cases e
            exact .inr (.inl ⟨((codes q hq).tab (tabs q hq)).isCodeTable, rfl, #[], more, rfl, by rw [Array.empty_append]; exact hmo⟩)
          · exact .inl (stays b o hm e)
        · by_cases hm : b ∈ cs.map (·.2)
          · obtain ⟨q, hq, rfl⟩ := List.mem_map.mp hm
            obtain ⟨more, hmo⟩ := later q hq
            exact ⟨_, hmo⟩
          · exact ⟨o, stays b o hm e⟩
      | _ => exact False.elim got
  have tb1 : ∀ {b : Addr} {u : HO}, (if b ∈ cs.map (·.2) then some (HO.tbl #[]) else none) = some u → b ∈ cs.map (·.2) ∧ u = .tbl #[] := by
    intro b u z
    by_cases hm : b ∈ cs.map (·.2)
    · rw [if_pos hm] at z; exact ⟨hm, (Option.some.inj z).symm⟩
    · rw [if_neg hm] at z; cases z
  cases hk : K.lookup a with
  | some o =>
    have e := KX a o hk
    rw [ha] at e
    cases e
    refine main (fun b => if b ∈ cs.map (·.2) then some (.tbl #[]) else none) (fun b => ?_) (fun q hq => if_pos (mem2 q hq)) (.inr ⟨_, vs.toArray, _, hk, rfl, rfl, rfl, by rw [List.size_toArray, many]; exact hl, by simpa using vals⟩) (fun b u z => ?_) (fun b z => ?_) fun z => absurd (if_neg notTab) z
    · by_cases hm : b ∈ cs.map (·.2)
      · exact .inr (.inl hm)
      · exact .inl (if_neg hm)
    · obtain ⟨hm, rfl⟩ := tb1 z
      exact tabAt b hm
    · by_cases hm : b ∈ cs.map (·.2)
      · exact .inr hm
      · exact absurd (if_neg hm) z
  | none =>
    have at1 : ∀ {b : Addr} {u : HO}, (if b = a then some (HO.frz { cls := .type "list", data := .seq vs.toArray } (.lst (ns.map V.int))) else if b ∈ cs.map (·.2) then some (HO.tbl #[]) else none) = some u → (b = a ∧ u = .frz { cls := .type "list", data := .seq vs.toArray } (.lst (ns.map V.int))) ∨ (b ∈ cs.map (·.2) ∧ u = .tbl #[]) := fun {b u} z => by
      by_cases hb0 : b = a
      · rw [if_pos hb0] at z; exact .inl ⟨hb0, (Option.some.inj z).symm⟩
      · rw [if_neg hb0] at z; exact .inr (tb1 z)
    refine main (fun b => if b = a then some (.frz { cls := .type "list", data := .seq vs.toArray } (.lst (ns.map V.int))) else if b ∈ cs.map (·.2) then some (.tbl #[]) else none) (fun b => ?_) (fun q hq => ?_) (.inl (.inr ⟨_, if_pos rfl⟩)) (fun b u z => ?_) (fun b z => ?_) fun _ => hk
    · by_cases hb0 : b = a
      · exact .inr (.inr ⟨_, _, if_pos hb0⟩)
      · by_cases hm : b ∈ cs.map (·.2)
        · exact .inr (.inl hm)
        · exact .inl ((if_neg hb0).trans (if_neg hm))
    · have hne : ¬ q.2 = a := fun z => notTab (z ▸ mem2 q hq)
      exact (if_neg hne).trans (if_pos (mem2 q hq))
    · rcases at1 z with ⟨rfl, rfl⟩ | ⟨hm, rfl⟩
      · exact ⟨ha, by rw [List.length_map]; exact hl, vs, _, vals, ha⟩
      · exact tabAt b hm
    · by_cases hb0 : b = a
      · exact .inl hb0
      · by_cases hm : b ∈ cs.map (·.2)
        · exact .inr hm
        · exact absurd ((if_neg hb0).trans (if_neg hm)) z
theorem walk_G {l : PySem.W.OpenLaw} {n k : Nat} {q : Program} {loose : List Str} {XP : (Str → Option Value) → Heap → Prop} {YP : World → Heap → Prop} {d : DefRec} {x : Str}
    (hn : l.most = some n) (hn2 : n ≤ sizeLine) (hdf : d.params.defaults = []) (hr : Room k callerA)
    (F : ∀ (w : World) (mg : Str → Option Value) (fa : Addr) (h : Heap), YP w h → h.Ns mainGlobals mg → mg d.name = some (.ref fa) →
      ∃ (K : PySem.W.Frag) (fd : FuncData) (cs : List (Addr × Addr)) (sp : Sp), K.In h ∧ (∀ q ∈ cs, h.get? q.2 = some { cls := .none, data := .fields #[] }) ∧ (∀ q ∈ cs, K.lookup q.2 = none) ∧ (∀ q ∈ cs, PySem.W.CodeHd h q.1 q.2) ∧ (∀ (s : Shared) (u : Value), BindsTo s fd ⟨[u], []⟩ [(x, u)]) ∧
        (∀ (H : Hp) (a : Addr) (ns : List Int), ns.length ≤ n → (∀ q ∈ cs, H q.2 = some (.tbl #[])) → SqL K H a (ns.map V.int) → sp [.ref a] H (fun v _ => v = .bl true) fun _ _ _ => False) ∧
        ∀ base : Heap, K.In base → base.Ns mainGlobals mg → (∀ q ∈ cs, LamX.TabB base mg q.1 q.2) → FnG l.prog w K mg base k fa fd [x] sp) :
    PySem.W.WalkO q loose XP YP l.row.toRowW d [] (fun f vs => PySem.call f vs) := by
  refine Att.attach_call hn hdf ?_
  intro w s₀ s₁ mg mb fa o pm cd doc a vs ns G Y ho hd hcd hmg hobj isInts hlen hg
  obtain ⟨K, fd, cs, sp, inK, tabs, tabK, codes, bd, prom, all⟩ := F w mg fa _ Y G.T.g hmg
  exact law_callG inK G.T.g G.T.b G.T.builtins G.T.nolimit hg tabs tabK codes G.T.bmain hobj isInts (Nat.le_trans hlen hn2) hr all bd fun H ht seq => prom H a ns hlen ht seq
end DL

namespace DL
open PySem PySem.Spec PyProof.Rows L2 PySem.W

/-! ### evaluation, for simp -/
/-- what comes next: looked at when it is come to -/
def thenK (g : FS) (K : DK) : Gam → Prop := fun γ => g γ K
theorem thenK_ap {g : FS} {K : DK} {γ : Gam} : thenK g K γ = g γ K := rfl
theorem step {f g : FS} {K : DK} {γ : Gam} (h : ∀ k, k = thenK g K → f γ { K with nx := k }) : thenK (dSeq2 f g) K γ := h _ rfl
section
variable {γ : Gam} {Q : TV → Prop} {Qb : Bool → Prop} {Qa : List TV → Prop} {K : DK} {fa fb fc fe : FE} {fr : FA} {ft gt : FT} {f g : FS} {i : Nat} {x y : D} {t u : TV} {sp : Spec} {op op' : TV → TV → Option TV} {is : List Nat} {b : BT}
@[simp] theorem ev_seq2 : dSeq2 f g γ K = f γ { K with nx := thenK g K } := (rfl)
@[simp] theorem ev_skip : dSkip γ K = K.nx γ := (rfl)
@[simp] theorem ev_pass : dPass γ K = K.nx γ := (rfl)
@[simp] theorem ev_brk : dBrk γ K = K.bk γ := (rfl)
@[simp] theorem ev_cnt : dCnt γ K = K.ct γ := (rfl)
@[simp] theorem ev_asg : dAsg i fe γ K = fe γ fun t => onS (putT i t γ) K.nx := (rfl)
@[simp] theorem ev_exp : dExp fe γ K = fe γ fun _ => K.nx γ := (rfl)
@[simp] theorem ev_if : dIf ft f g γ K = ft γ fun b => if b = true then f γ K else g γ K := (rfl)
@[simp] theorem ev_ret : dRet fe γ K = fe γ K.rt := (rfl)
@[simp] theorem ev_retN : dRetN γ K = K.rt (pd .none) := (rfl)
@[simp] theorem ev_par : dPar is fr γ K = fr γ fun ts => onS (putsT is ts γ) K.nx := (rfl)
@[simp] theorem ev_unp : dUnp fe b γ K = fe γ fun t => onS t.plain fun d => onS (b d γ) K.nx := (rfl)
@[simp] theorem ev_frz : dFrz is f γ K = f (frzG is γ) K := (rfl)
@[simp] theorem ev_weak : dWeak is f γ K = f (wipeG γ is) K := (rfl)
@[simp] theorem ev_nil : dNil γ Qa = Qa [] := (rfl)
@[simp] theorem ev_cons : dCons fa fr γ Qa = fa γ fun t => fr γ fun ts => Qa (t :: ts) := (rfl)
@[simp] theorem ev_con : dCon x γ Q = Q (.pl (.d x)) := (rfl)
@[simp] theorem ev_var : dVar i γ Q = onS ((γ[i]?).bind seen) Q := (rfl)
@[simp] theorem ev_op : dOp op fa fb γ Q = fa γ fun x => fb γ fun y => onS (op x y) Q := (rfl)
@[simp] theorem ev_tup : dTup fr γ Q = fr γ fun ts => onS (plains ts) fun ds => ds.length ≤ sizeLine ∧ Q (.pl (.d (.tuple ds))) := (rfl)
@[simp] theorem ev_lst : dLst fr γ Q = fr γ fun ts => onS (plains ts) fun ds => ds.length ≤ sizeLine ∧ Q (.fr ds) := (rfl)
@[simp] theorem ev_call : dCall sp fr γ Q = fr γ fun ts => callD sp ts Q := (rfl)
@[simp] theorem ev_ite : dIte ft fa fb γ Q = ft γ fun b => if b = true then fa γ Q else fb γ Q := (rfl)
@[simp] theorem ev_and : dAnd ft gt γ Qb = ft γ fun b => if b = true then gt γ Qb else Qb false := (rfl)
@[simp] theorem ev_or : dOr ft gt γ Qb = ft γ fun b => if b = true then Qb true else gt γ Qb := (rfl)
@[simp] theorem ev_not : dNot ft γ Qb = ft γ fun b => Qb (!b) := (rfl)
@[simp] theorem ev_yes : dYes γ Qb = Qb true := (rfl)
@[simp] theorem ev_tru : dTru fe γ Qb = fe γ fun t => onS (truT t) Qb := (rfl)
@[simp] theorem ev_isi {q : D → Bool} : dIsi q fe γ Q = fe γ fun t => onS t.data fun d => d.plain = true ∧ Q (bv (q d)) := (rfl)
@[simp] theorem ev_notV : dNotV fe γ Q = fe γ fun t => onS (truT t) fun b => Q (bv (!b)) := (rfl)
@[simp] theorem ev_dict0 : dDict0 γ Q = Q (.fd []) := (rfl)
@[simp] theorem ev_blt {g : G1} : dBlt g fr γ Q = fr γ fun ts => g ts Q := (rfl)
def toB (Q : Bool → Prop) (t : TV) : Prop := match t.data with
  | some (.bool b) => Q b
  | _ => False
@[simp] theorem toB_bool {c : Bool} : toB Qb (.pl (.d (.bool c))) = Qb c := (rfl)
@[simp] theorem ev_B : dB fe γ Qb = fe γ (toB Qb) := by
  unfold dB toB
  congr 1
def toI (Q : Int → Prop) (t : TV) : Prop := match t.data with
  | some (.int b) => Q b
  | _ => False
@[simp] theorem toI_int {c : Int} {Q : Int → Prop} : toI Q (.pl (.d (.int c))) = Q c := (rfl)
@[simp] theorem ev_neg : dNeg fe γ Q = fe γ (toI fun i => Q (iv (-i))) := by
  unfold dNeg toI
  congr 1
@[simp] theorem ev_no {Q : Option Int → Prop} : dNo γ Q = Q none := (rfl)
@[simp] theorem ev_part {Q : Option Int → Prop} : dPart fe γ Q = fe γ (toI fun i => Q (some i)) := by
  unfold dPart toI
  congr 1
@[simp] theorem ev_slc {fl fh : FP} : dSlc fa fl fh γ Q = fa γ fun x => fl γ fun l => fh γ fun h => onS (slcT x l h) Q := (rfl)
@[simp] theorem ev_andV : dAndV fa fb γ Q = fa γ (toB fun c => if c = true then fb γ Q else Q (bv false)) := by
  unfold dAndV toB
  congr 1
@[simp] theorem ev_orV : dOrV fa fb γ Q = fa γ (toB fun c => if c = true then Q (bv true) else fb γ Q) := by
  unfold dOrV toB
  congr 1
@[simp] theorem ev_chain : dChain op op' fa fb fc γ Q = fa γ fun x => fb γ fun y => onS (op x y) (toB fun c => if c = true then fc γ fun z => onS (op' y z) Q else Q (bv false)) := by
  show (fa γ fun x => fb γ fun y => onS (op x y) fun z => _) = _
  congr 1
  funext x
  congr 1
  funext y
  congr 1
  funext z
  unfold toB
  cases z.data with
  | none => rfl
  | some d =>
    cases d with
    | bool b => cases b <;> rfl
    | _ => rfl
@[simp] theorem seen_non : seen .non = none := (rfl)
@[simp] theorem seen_pl {r : RV} : seen (.pl r) = some (.pl r) := (rfl)
@[simp] theorem seen_ol {ds : List D} : seen (.ol ds) = some (.lv ds) := (rfl)
@[simp] theorem seen_od {ds : List (D × D)} : seen (.od ds) = some (.dv ds) := (rfl)
@[simp] theorem onS_s {α : Type} {a : α} {Q : α → Prop} : onS (some a) Q = Q a := (rfl)
@[simp] theorem onS_n {α : Type} {Q : α → Prop} : onS (none : Option α) Q = False := (rfl)
@[simp] theorem data_pl : (TV.pl (.d x)).data = some x := (rfl)
@[simp] theorem data_lv {ds : List D} : (TV.lv ds).data = some (.list ds) := (rfl)
@[simp] theorem data_fr {ds : List D} : (TV.fr ds).data = some (.list ds) := (rfl)
@[simp] theorem data_dv {ds : List (D × D)} : (TV.dv ds).data = some (.dict ds) := (rfl)
@[simp] theorem data_fd {ds : List (D × D)} : (TV.fd ds).data = some (.dict ds) := (rfl)
@[simp] theorem plain_pl : (TV.pl (.d x)).plain = some x := (rfl)
@[simp] theorem plain_fr {ds : List D} : (TV.fr ds).plain = some (.list ds) := (rfl)
@[simp] theorem plain_fd {ds : List (D × D)} : (TV.fd ds).plain = some (.dict ds) := (rfl)
@[simp] theorem rv_pl {r : RV} : (TV.pl r).rv = some r := (rfl)
@[simp] theorem rv_fr {ds : List D} : (TV.fr ds).rv = some (.d (.list ds)) := (rfl)
@[simp] theorem rv_fd {ds : List (D × D)} : (TV.fd ds).rv = some (.d (.dict ds)) := (rfl)
@[simp] theorem rv_lv {ds : List D} : (TV.lv ds).rv = none := (rfl)
@[simp] theorem rv_dv {ds : List (D × D)} : (TV.dv ds).rv = none := (rfl)
@[simp] theorem look_pl {r : RV} : (TV.pl r).look = r := (rfl)
@[simp] theorem look_lv {ds : List D} : (TV.lv ds).look = .d (.list ds) := (rfl)
@[simp] theorem look_fr {ds : List D} : (TV.fr ds).look = .d (.list ds) := (rfl)
@[simp] theorem plains_nil : plains [] = some [] := (rfl)
@[simp] theorem plains_cons {ts : List TV} : plains (t :: ts) = t.plain.bind fun r => (plains ts).map fun rs => r :: rs := (rfl)
@[simp] theorem rvs_nil : rvs [] = some [] := (rfl)
@[simp] theorem rvs_cons {ts : List TV} : rvs (t :: ts) = t.rv.bind fun r => (rvs ts).map fun rs => r :: rs := (rfl)
@[simp] theorem iv_def {i : Int} : iv i = .pl (.d (.int i)) := (rfl)
@[simp] theorem bv_def {i : Bool} : bv i = .pl (.d (.bool i)) := (rfl)
@[simp] theorem pd_def : pd x = .pl (.d x) := (rfl)
@[simp] theorem put_pl {r : RV} : putT i (.pl r) γ = some (γ.set i (.pl r)) := (rfl)
@[simp] theorem put_fr {ds : List D} : putT i (.fr ds) γ = some (γ.set i (.ol ds)) := (rfl)
@[simp] theorem put_fd {ds : List (D × D)} : putT i (.fd ds) γ = some (γ.set i (.od ds)) := (rfl)
@[simp] theorem puts_nil : putsT [] [] γ = some γ := (rfl)
@[simp] theorem puts_cons {ts : List TV} : putsT (i :: is) (t :: ts) γ = (putT i t γ).bind fun γ' => putsT is ts γ' := (rfl)
@[simp] theorem bname_ev : bName i x γ = some (γ.set i (.pl (.d x))) := (rfl)
@[simp] theorem bnil_ev : bNil [] γ = some γ := (rfl)
@[simp] theorem bcons_ev {r : BTs} {ds : List D} : bCons b r (x :: ds) γ = (b x γ).bind fun γ' => r ds γ' := (rfl)
@[simp] theorem btup_ev {n : Nat} {r : BTs} {ds : List D} : bTup n r (.tuple ds) γ = if ds.length = n then r ds γ else none := (rfl)
@[simp] theorem wipe_nil : wipeG γ [] = γ := (rfl)
@[simp] theorem wipe_cons : wipeG γ (i :: is) = (wipeG γ is).set i .non := (rfl)
@[simp] theorem frzG_nil : frzG [] γ = γ := (rfl)
@[simp] theorem frzS_ol {ds : List D} : frzS (.ol ds) = .pl (.d (.list ds)) := (rfl)
@[simp] theorem frzS_od {ds : List (D × D)} : frzS (.od ds) = .pl (.d (.dict ds)) := (rfl)
@[simp] theorem frzS_pl {r : RV} : frzS (.pl r) = .pl r := (rfl)
@[simp] theorem frzG_cons {s : Sl} (h : γ[i]? = some s) : frzG (i :: is) γ = frzG is (γ.set i (frzS s)) := by
  show frzG is (match γ[i]? with | some s => γ.set i (frzS s) | none => γ) = _
  rw [h]
@[simp] theorem kTo_nx {Q0 : RV → Prop} : (kTo Q0).nx γ = Q0 (.d .none) := (rfl)
@[simp] theorem kTo_rt {Q0 : RV → Prop} : (kTo Q0).rt t = onS t.rv Q0 := (rfl)
theorem ev_retV_pl {r : RV} (h : γ[i]? = some (.pl r)) : dRetV i γ K = K.rt (.pl r) := by unfold dRetV; rw [h]
theorem ev_retV_ol {ds : List D} (h : γ[i]? = some (.ol ds)) : dRetV i γ K = K.rt (.fr ds) := by unfold dRetV; rw [h]
theorem ev_retV_od {ds : List (D × D)} (h : γ[i]? = some (.od ds)) : dRetV i γ K = K.rt (.fd ds) := by unfold dRetV; rw [h]
@[simp] theorem ev_retV : dRetV i γ K = onS (γ[i]?) fun s => match s with | .pl r => K.rt (.pl r) | .ol ds => K.rt (.fr ds) | .od ds => K.rt (.fd ds) | .non => False := by
  unfold dRetV onS
  cases γ[i]? with
  | none => rfl
  | some s => cases s <;> rfl
@[simp] theorem ev_app : dApp i fe γ K = onS (γ[i]?) fun s => match s with | .ol ds => fe γ fun t => onS t.plain fun d => ds.length < sizeLine ∧ K.nx (γ.set i (.ol (ds ++ [d]))) | _ => False := by
  unfold dApp onS
  cases γ[i]? with
  | none => rfl
  | some s => cases s <;> rfl
@[simp] theorem ev_aug {sub : Bool} : dAug sub i fe γ K = onS (γ[i]?) fun s => match s with | .pl (.d x) => fe γ fun t => onS t.data fun y => onS (augT sub x y) fun z => K.nx (γ.set i (.pl (.d z))) | _ => False := by
  unfold dAug onS
  cases γ[i]? with
  | none => rfl
  | some s =>
    cases s with
    | pl r => cases r <;> rfl
    | _ => rfl
theorem callD_rv {ts : List TV} {rs : List RV} (h : rvs ts = some rs) : callD sp ts Q = sp rs fun r => Q (.pl r) := by unfold callD; rw [h]
def immK (Q : TV → Prop) (r : RV) : Prop := match r with
  | .d x => imm x = true ∧ Q (.pl (.d x))
  | _ => False
@[simp] theorem immK_d : immK Q (.d x) = (imm x = true ∧ Q (.pl (.d x))) := (rfl)
def callR (sp : Spec) (ts : List TV) (Q : TV → Prop) : Option (List RV) → Prop
  | some rs => sp rs fun r => Q (.pl r)
  | none => sp (ts.map TV.look) (immK Q)
@[simp] theorem callD_ev {ts : List TV} : callD sp ts Q = callR sp ts Q (rvs ts) := by
  unfold callD callR
  cases rvs ts <;> rfl
@[simp] theorem callR_some {ts : List TV} {rs : List RV} : callR sp ts Q (some rs) = sp rs fun r => Q (.pl r) := (rfl)
@[simp] theorem callR_none {ts : List TV} : callR sp ts Q none = sp (ts.map TV.look) (immK Q) := (rfl)
@[simp] theorem imm_i {i : Int} : imm (.int i) = true := (rfl)
@[simp] theorem imm_b {i : Bool} : imm (.bool i) = true := (rfl)
@[simp] theorem imm_n : imm .none = true := (rfl)
@[simp] theorem imm_s {i : Str} : imm (.str i) = true := (rfl)
@[simp] theorem imm_t {l : List D} : imm (.tuple l) = imms l := by simp [imm]
@[simp] theorem imms_n : imms [] = true := by simp [imms]
@[simp] theorem imms_c {l : List D} : imms (x :: l) = (imm x && imms l) := by simp [imms]
@[simp] theorem sp0_ev {f : Q1 → Prop} {Q : Q1} : sp0 f [] Q = f Q := (rfl)
@[simp] theorem sp1_ev {f : RV → Q1 → Prop} {Q : Q1} {a : RV} : sp1 f [a] Q = f a Q := (rfl)
@[simp] theorem sp2_ev {f : RV → RV → Q1 → Prop} {Q : Q1} {a b : RV} : sp2 f [a, b] Q = f a b Q := (rfl)
@[simp] theorem sp3_ev {f : RV → RV → RV → Q1 → Prop} {Q : Q1} {a b c : RV} : sp3 f [a, b, c] Q = f a b c Q := (rfl)
@[simp] theorem sp4_ev {f : RV → RV → RV → RV → Q1 → Prop} {Q : Q1} {a b c d : RV} : sp4 f [a, b, c, d] Q = f a b c d Q := (rfl)
@[simp] theorem sp5_ev {f : RV → RV → RV → RV → RV → Q1 → Prop} {Q : Q1} {a b c d e : RV} : sp5 f [a, b, c, d, e] Q = f a b c d e Q := (rfl)
end

/-! ### ints -/
section
variable {i j : Int} {b c : Bool} {x y : TV} {d e : D}
@[simp] theorem add_ii : addT (.pl (.d (.int i))) (.pl (.d (.int j))) = some (.pl (.d (.int (i + j)))) := (rfl)
@[simp] theorem sub_ii : subT (.pl (.d (.int i))) (.pl (.d (.int j))) = some (.pl (.d (.int (i - j)))) := (rfl)
theorem mul_ii (h : (-(2 ^ 64) < i ∧ i < 2 ^ 64) ∨ (-(2 ^ 64) < j ∧ j < 2 ^ 64)) : mulT (.pl (.d (.int i))) (.pl (.d (.int j))) = some (.pl (.d (.int (i * j)))) := if_pos h
theorem div_ii (h : j ≠ 0 ∧ j.natAbs < 1073741824) : divT (.pl (.d (.int i))) (.pl (.d (.int j))) = some (.pl (.d (.int (i.fdiv j)))) := if_pos h
theorem mod_ii (h : j ≠ 0) : modT (.pl (.d (.int i))) (.pl (.d (.int j))) = some (.pl (.d (.int (i.fmod j)))) := if_pos h
@[simp] theorem eqv_ii : PyData.eqv (.int i) (.int j) = decide (i = j) := by
  rw [PyData.eqv]; exact beq_dec i j
@[simp] theorem eqv_bb : PyData.eqv (.bool b) (.bool c) = decide (b = c) := by
  rw [PyData.eqv]; exact beq_dec b c
@[simp] theorem eqv_nn : PyData.eqv .none .none = true := by rw [PyData.eqv]
@[simp] theorem eqv_ss {s t : Str} : PyData.eqv (.str s) (.str t) = decide (s = t) := by
  rw [PyData.eqv]; exact beq_dec s t
@[simp] theorem eqv_tt {s t : List D} : PyData.eqv (.tuple s) (.tuple t) = PyData.eqvAll s t := by rw [PyData.eqv]
@[simp] theorem eqv_ll {s t : List D} : PyData.eqv (.list s) (.list t) = PyData.eqvAll s t := by rw [PyData.eqv]
@[simp] theorem eqv_nt {s : List D} : PyData.eqv .none (.tuple s) = false := by rw [PyData.eqv]
@[simp] theorem eqv_tn {s : List D} : PyData.eqv (.tuple s) .none = false := by rw [PyData.eqv]
@[simp] theorem eqv_ni : PyData.eqv .none (.int i) = false := by rw [PyData.eqv]
@[simp] theorem eqv_in : PyData.eqv (.int i) .none = false := by rw [PyData.eqv]
@[simp] theorem eqvAll_nil : PyData.eqvAll [] [] = true := by rw [PyData.eqvAll]
@[simp] theorem eqvAll_cons {s t : List D} : PyData.eqvAll (d :: s) (e :: t) = (PyData.eqv d e && PyData.eqvAll s t) := eqv_all_cons d e s t
@[simp] theorem eqvAll_nc {t : List D} : PyData.eqvAll [] (e :: t) = false := by rw [PyData.eqvAll]
@[simp] theorem eqvAll_cn {t : List D} : PyData.eqvAll (e :: t) [] = false := by rw [PyData.eqvAll]
@[simp] theorem plain_i : (PyData.int i).plain = true := (rfl)
@[simp] theorem plain_b : (PyData.bool b).plain = true := (rfl)
@[simp] theorem plain_n : (PyData.none).plain = true := (rfl)
@[simp] theorem plain_s {s : Str} : (PyData.str s).plain = true := (rfl)
@[simp] theorem plain_t {s : List D} : (PyData.tuple s).plain = PyData.plainAll s := by simp [PyData.plain]
@[simp] theorem plain_l {s : List D} : (PyData.list s).plain = PyData.plainAll s := by simp [PyData.plain]
@[simp] theorem plainAll_nil : PyData.plainAll [] = true := by simp [PyData.plainAll]
@[simp] theorem plainAll_cons {s : List D} : PyData.plainAll (d :: s) = (d.plain && PyData.plainAll s) := by simp [PyData.plainAll]
@[simp] theorem depth_i : (PyData.int i).depth = 0 := by simp [PyData.depth]
@[simp] theorem depth_b : (PyData.bool b).depth = 0 := by simp [PyData.depth]
@[simp] theorem depth_n : (PyData.none).depth = 0 := by simp [PyData.depth]
@[simp] theorem depth_s {s : Str} : (PyData.str s).depth = 0 := by simp [PyData.depth]
@[simp] theorem depthAll_nil : PyData.depthAll [] = 0 := by simp [PyData.depthAll]
theorem eqT_of (hx : x.data = some d) (hy : y.data = some e) (h : okEq d e = true) : eqT x y = some (.pl (.d (.bool (PyData.eqv d e)))) := by
  unfold eqT
  rw [hx, hy]
  exact if_pos h
theorem neT_of (hx : x.data = some d) (hy : y.data = some e) (h : okEq d e = true) : neT x y = some (.pl (.d (.bool (!PyData.eqv d e)))) := by
  unfold neT
  rw [hx, hy]
  exact if_pos h
theorem okEq_of (h1 : d.plain = true) (h2 : e.plain = true) (h3 : min d.depth e.depth ≤ 60) : okEq d e = true := by
  unfold okEq
  rw [h1, h2, Bool.true_and, Bool.true_and]
  exact decide_eq_true h3
@[simp] theorem eq_ii : eqT (.pl (.d (.int i))) (.pl (.d (.int j))) = some (.pl (.d (.bool (decide (i = j))))) := by
  rw [eqT_of rfl rfl (okEq_of rfl rfl (by simp)), eqv_ii]
@[simp] theorem ne_ii : neT (.pl (.d (.int i))) (.pl (.d (.int j))) = some (.pl (.d (.bool (!decide (i = j))))) := by
  rw [neT_of rfl rfl (okEq_of rfl rfl (by simp)), eqv_ii]
@[simp] theorem eq_bb : eqT (.pl (.d (.bool b))) (.pl (.d (.bool c))) = some (.pl (.d (.bool (decide (b = c))))) := by
  rw [eqT_of rfl rfl (okEq_of rfl rfl (by simp)), eqv_bb]
@[simp] theorem ne_bb : neT (.pl (.d (.bool b))) (.pl (.d (.bool c))) = some (.pl (.d (.bool (!decide (b = c))))) := by
  rw [neT_of rfl rfl (okEq_of rfl rfl (by simp)), eqv_bb]
theorem okLt_ii : okLt (.int i) (.int j) = true := by
  simp [okLt, alike, isNon]
theorem lt_any {f : D → D → Bool} : ltT f (.pl (.d (.int i))) (.pl (.d (.int j))) = some (.pl (.d (.bool (f (.int i) (.int j))))) := by
  show (if okLt (.int i) (.int j) = true then some (bv (f (.int i) (.int j))) else none) = _
  rw [if_pos okLt_ii]
  rfl
@[simp] theorem lt_ii : ltT lt_ (.pl (.d (.int i))) (.pl (.d (.int j))) = some (.pl (.d (.bool (decide (i < j))))) := by
  rw [lt_any]; show some (TV.pl (.d (.bool (dataLt _ _)))) = _; rw [dataLt_int]
@[simp] theorem gt_ii : ltT gt_ (.pl (.d (.int i))) (.pl (.d (.int j))) = some (.pl (.d (.bool (decide (j < i))))) := by
  rw [lt_any]; show some (TV.pl (.d (.bool (dataLt _ _)))) = _; rw [dataLt_int]
@[simp] theorem le_ii : ltT le_ (.pl (.d (.int i))) (.pl (.d (.int j))) = some (.pl (.d (.bool (decide (i ≤ j))))) := by
  rw [lt_any]; show some (TV.pl (.d (.bool (!dataLt _ _)))) = _; rw [dataLt_int, ← decide_not]; simp only [Int.not_lt]
@[simp] theorem ge_ii : ltT ge_ (.pl (.d (.int i))) (.pl (.d (.int j))) = some (.pl (.d (.bool (decide (j ≤ i))))) := by
  rw [lt_any]; show some (TV.pl (.d (.bool (!dataLt _ _)))) = _; rw [dataLt_int, ← decide_not]; simp only [Int.not_lt]
@[simp] theorem tru_b : truT (.pl (.d (.bool b))) = some b := (rfl)
@[simp] theorem tru_i : truT (.pl (.d (.int i))) = some (i != 0) := (rfl)
@[simp] theorem isi_i : PyData.isInt (.int i) = true := (rfl)
@[simp] theorem isb_i : PyData.isBool (.int i) = false := (rfl)
@[simp] theorem ist_t {s : List D} : PyData.isTuple (.tuple s) = true := (rfl)
@[simp] theorem ist_l {s : List D} : PyData.isTuple (.list s) = false := (rfl)
@[simp] theorem isl_l {s : List D} : PyData.isList (.list s) = true := (rfl)
@[simp] theorem isl_t {s : List D} : PyData.isList (.tuple s) = false := (rfl)
@[simp] theorem gLen_l {s : List D} {Q : TV → Prop} (h : x.data = some (.list s)) : gLen [x] Q = Q (.pl (.d (.int (s.length : Int)))) := by
  unfold gLen
  simp only [h]
  rfl
@[simp] theorem gLen_t {s : List D} {Q : TV → Prop} : gLen [.pl (.d (.tuple s))] Q = Q (.pl (.d (.int (s.length : Int)))) := (rfl)
@[simp] theorem gLen_s {s : Str} {Q : TV → Prop} : gLen [.pl (.d (.str s))] Q = (s.length ≤ sizeLine ∧ Q (.pl (.d (.int (s.length : Int))))) := (rfl)
@[simp] theorem gInt_i {Q : TV → Prop} : gInt [.pl (.d (.int i))] Q = Q (.pl (.d (.int i))) := (rfl)
@[simp] theorem gAbs_i {Q : TV → Prop} : gAbs [.pl (.d (.int i))] Q = Q (.pl (.d (.int (if i < 0 then -i else i)))) := (rfl)
end
end DL
namespace DL
open PySem PySem.Spec PyProof.Rows L2 PySem.W
section
variable {a b c d e f : D} {l : List D} {i : Int}
@[simp] theorem idx_t : idxT (.pl (.d (.tuple l))) (.pl (.d (.int i))) = (atI l i).map pd := (rfl)
@[simp] theorem idx_l : idxT (.pl (.d (.list l))) (.pl (.d (.int i))) = (atI l i).map pd := (rfl)
@[simp] theorem idx_lv : idxT (.lv l) (.pl (.d (.int i))) = (atI l i).map pd := (rfl)
@[simp] theorem idx_fr : idxT (.fr l) (.pl (.d (.int i))) = (atI l i).map pd := (rfl)
theorem atI_k {α : Type} {xs : List α} {j : Nat} : atI xs (j : Int) = xs[j]? := by
  unfold atI ixN
  rw [if_pos (by omega)]
  by_cases h : (j : Int) < xs.length
  · rw [if_pos h]; simp
  · rw [if_neg h]
    rw [List.getElem?_eq_none (by omega)]
    rfl
theorem atI_of {α : Type} {xs : List α} {i : Int} (h : 0 ≤ i) : atI xs i = xs[i.toNat]? := by
  obtain ⟨j, rfl⟩ := Int.eq_ofNat_of_zero_le h
  rw [atI_k]; rfl
@[simp] theorem atI_0 {α : Type} {xs : List α} : atI xs 0 = xs[0]? := atI_k (j := 0)
@[simp] theorem atI_1 {α : Type} {xs : List α} : atI xs 1 = xs[1]? := atI_k (j := 1)
@[simp] theorem atI_2 {α : Type} {xs : List α} : atI xs 2 = xs[2]? := atI_k (j := 2)
@[simp] theorem atI_3 {α : Type} {xs : List α} : atI xs 3 = xs[3]? := atI_k (j := 3)
@[simp] theorem atI_4 {α : Type} {xs : List α} : atI xs 4 = xs[4]? := atI_k (j := 4)
@[simp] theorem atI_m1 {α : Type} {xs : List α} : atI xs (-1) = xs.getLast? := by
  unfold atI ixN
  rw [if_neg (by decide), List.getLast?_eq_getElem?]
  by_cases h : xs.length = 0
  · rw [if_neg (by omega)]
    have e : xs = [] := List.eq_nil_of_length_eq_zero h
    rw [e]
    rfl
  · rw [if_pos (by omega)]
    have e : ((-1 : Int) + xs.length).toNat = xs.length - 1 := by omega
    show xs[_]? = _
    rw [e]
end
end DL
namespace DL
@[simp] theorem get_0 {α : Type} {a : α} {l : List α} : (a :: l)[0]? = some a := (rfl)
@[simp] theorem get_s {α : Type} {a : α} {l : List α} {n : Nat} : (a :: l)[n + 1]? = l[n]? := (rfl)
end DL
namespace DL
@[simp] theorem isNon_n : isNon .none = true := (rfl)
@[simp] theorem isNon_i {i : Int} : isNon (.int i) = false := (rfl)
@[simp] theorem isNon_b {i : Bool} : isNon (.bool i) = false := (rfl)
@[simp] theorem isNon_t {i : List D} : isNon (.tuple i) = false := (rfl)
@[simp] theorem isNon_l {i : List D} : isNon (.list i) = false := (rfl)
@[simp] theorem isNon_s {i : PySem.Str} : isNon (.str i) = false := (rfl)
end DL
namespace DL
open PySem
theorem szl : 100000 < (sizeLine : Nat) := by decide
theorem big (n : Nat) (h : n ≤ 100000) : n ≤ sizeLine := Nat.le_trans h (Nat.le_of_lt szl)
@[simp] theorem sz_le {n : Nat} (h : n ≤ 100000) : (n ≤ sizeLine) = True := eq_true (big n h)
@[simp] theorem sz_lt {n : Nat} (h : n ≤ 100000) : (n < sizeLine) = True := eq_true (Nat.lt_of_le_of_lt h szl)
end DL
namespace DL
open PySem PySem.Spec
@[simp] theorem eq_ss {s t : Str} : eqT (.pl (.d (.str s))) (.pl (.d (.str t))) = some (.pl (.d (.bool (decide (s = t))))) := by
  rw [eqT_of rfl rfl (okEq_of rfl rfl (by simp)), eqv_ss]
@[simp] theorem ne_ss {s t : Str} : neT (.pl (.d (.str s))) (.pl (.d (.str t))) = some (.pl (.d (.bool (!decide (s = t))))) := by
  rw [neT_of rfl rfl (okEq_of rfl rfl (by simp)), eqv_ss]
end DL
namespace DL
open PySem PySem.Spec PySem.W
section
variable {d e : D} {s t : List D}
@[simp] theorem depth_t : (PyData.tuple s).depth = PyData.depthAll s + 1 := by simp [PyData.depth]
@[simp] theorem depth_l : (PyData.list s).depth = PyData.depthAll s + 1 := by simp [PyData.depth]
@[simp] theorem depthAll_cons : PyData.depthAll (d :: s) = max d.depth (PyData.depthAll s) := by simp [PyData.depthAll]
@[simp] theorem eq_tt : eqT (.pl (.d (.tuple s))) (.pl (.d (.tuple t))) = if okEq (.tuple s) (.tuple t) = true then some (.pl (.d (.bool (PyData.eqvAll s t)))) else none := by
  rw [← eqv_tt]; rfl
@[simp] theorem ne_tt : neT (.pl (.d (.tuple s))) (.pl (.d (.tuple t))) = if okEq (.tuple s) (.tuple t) = true then some (.pl (.d (.bool (!PyData.eqvAll s t)))) else none := by
  rw [← eqv_tt]; rfl
@[simp] theorem eq_nt : eqT (.pl (.d .none)) (.pl (.d (.tuple t))) = if okEq .none (.tuple t) = true then some (.pl (.d (.bool false))) else none := by
  rw [← eqv_nt]; rfl
@[simp] theorem ne_nt : neT (.pl (.d .none)) (.pl (.d (.tuple t))) = if okEq .none (.tuple t) = true then some (.pl (.d (.bool true))) else none := by
  show _ = if _ then some (TV.pl (.d (.bool (!false)))) else none
  rw [← eqv_nt (s := t)]; rfl
@[simp] theorem eq_tn : eqT (.pl (.d (.tuple t))) (.pl (.d .none)) = if okEq (.tuple t) .none = true then some (.pl (.d (.bool false))) else none := by
  rw [← eqv_tn]; rfl
@[simp] theorem ne_tn : neT (.pl (.d (.tuple t))) (.pl (.d .none)) = if okEq (.tuple t) .none = true then some (.pl (.d (.bool true))) else none := by
  show _ = if _ then some (TV.pl (.d (.bool (!false)))) else none
  rw [← eqv_tn (s := t)]; rfl
@[simp] theorem eq_ll : eqT (.pl (.d (.list s))) (.pl (.d (.list t))) = if okEq (.list s) (.list t) = true then some (.pl (.d (.bool (PyData.eqvAll s t)))) else none := by
  rw [← eqv_ll]; rfl
@[simp] theorem ne_ll : neT (.pl (.d (.list s))) (.pl (.d (.list t))) = if okEq (.list s) (.list t) = true then some (.pl (.d (.bool (!PyData.eqvAll s t)))) else none := by
  rw [← eqv_ll]; rfl
@[simp] theorem okEq_ev : okEq d e = (d.plain && (e.plain && decide (min d.depth e.depth ≤ 60))) := (rfl)
@[simp] theorem eq_nn : eqT (.pl (.d .none)) (.pl (.d .none)) = some (.pl (.d (.bool true))) := by
  rw [eqT_of rfl rfl (okEq_of rfl rfl (by simp)), eqv_nn]
@[simp] theorem eq_in : eqT (.pl (.d (.int i))) (.pl (.d .none)) = some (.pl (.d (.bool false))) := by
  rw [eqT_of rfl rfl (okEq_of rfl rfl (by simp)), eqv_in]
@[simp] theorem ne_in : neT (.pl (.d (.int i))) (.pl (.d .none)) = some (.pl (.d (.bool true))) := by
  rw [neT_of rfl rfl (okEq_of rfl rfl (by simp)), eqv_in]; rfl
end
end DL
namespace DL
@[simp] theorem isT_n {neg : Bool} {d : D} : isT neg (.pl (.d d)) (.pl (.d .none)) = some (.pl (.d (.bool (xor neg (isNon d))))) := by cases d <;> rfl
@[simp] theorem isT_bb {neg b c : Bool} : isT neg (.pl (.d (.bool b))) (.pl (.d (.bool c))) = some (.pl (.d (.bool (xor neg (b == c))))) := (rfl)
end DL

namespace DL
open PySem PySem.Spec PyProof.Rows L2 PySem.W

/-! ### loops, comprehensions: what is to be shown -/
section
variable {b : BT} {fg vs is : List Nat} {body f : FS} {γ : Gam} {K : DK} {ft fc : FT} {fe fa : FE} {fi : FI} {fr : FA} {Q : TV → Prop}
theorem forD_ok (I : List D → Gam → Prop) (hstep : ∀ d ds γ, I (d :: ds) γ → ∃ γ2, b d γ = some γ2 ∧ ∀ K' : DK, (∀ γ', I ds (wipeG γ' fg) → K'.nx γ') → (∀ γ', I ds (wipeG γ' fg) → K'.ct γ') → (∀ γ', K.nx (wipeG γ' fg) → K'.bk γ') → (∀ t, K.rt t → K'.rt t) → body γ2 K')
    (hend : ∀ γ, I [] γ → K.nx γ) : ∀ (ds : List D) (γ : Gam), I ds γ → forD b fg body ds γ K
  | [], γ, h => hend γ h
  | d :: ds, γ, h => by
    obtain ⟨γ2, e, q⟩ := hstep d ds γ h
    show onS (b d γ) _
    rw [e]
    exact q _ (fun γ' h' => forD_ok I hstep hend ds _ h') (fun γ' h' => forD_ok I hstep hend ds _ h') (fun _ h' => h') fun _ h' => h'
theorem whD_ok (I : Nat → Gam → Prop) (hstep : ∀ n γ, I n γ → ∀ K' : DK, (∀ m γ', m < n → I m (wipeG γ' fg) → K'.nx γ') → (∀ m γ', m < n → I m (wipeG γ' fg) → K'.ct γ') → (∀ γ', K.nx (wipeG γ' fg) → K'.bk γ') → (∀ t, K.rt t → K'.rt t) → ft γ fun b => if b = true then body γ K' else K.nx γ) :
    ∀ (f n : Nat) (γ : Gam), n < f → I n γ → whD ft fg body f γ K
  | 0, n, γ, hl, _ => by omega
  | f + 1, n, γ, hl, h => hstep n γ h _ (fun m γ' hm h' => whD_ok I hstep f m _ (by omega) h') (fun m γ' hm h' => whD_ok I hstep f m _ (by omega) h') (fun _ h' => h') fun _ h' => h'
theorem dWh_ok (I : Nat → Gam → Prop) (n : Nat) (h : I n γ) (hstep : ∀ n γ, I n γ → ∀ K' : DK, (∀ m γ', m < n → I m (wipeG γ' fg) → K'.nx γ') → (∀ m γ', m < n → I m (wipeG γ' fg) → K'.ct γ') → (∀ γ', K.nx (wipeG γ' fg) → K'.bk γ') → (∀ t, K.rt t → K'.rt t) → ft γ fun b => if b = true then body γ K' else K.nx γ) :
    dWh ft fg body γ K := ⟨n + 1, whD_ok I hstep (n + 1) n γ (Nat.lt_succ_self n) h⟩
inductive RelL (R : D → Option D → Prop) : List D → List D → Prop
  | nil : RelL R [] []
  | skip {d : D} {ds out : List D} : R d none → RelL R ds out → RelL R (d :: ds) out
  | keep {d x : D} {ds out : List D} : R d (some x) → RelL R ds out → RelL R (d :: ds) (x :: out)
theorem lcD_rel (R : D → Option D → Prop) {k : List D → Prop} : ∀ (ds acc : List D), acc.length + ds.length ≤ sizeLine →
    (∀ d ∈ ds, ∀ (k1 : D → Prop) (k0 : Prop), (∀ x, R d (some x) → k1 x) → (R d none → k0) → onS (b d γ) fun γ2 => fc γ2 fun c => if c = true then fe γ2 fun t => onS t.plain k1 else k0) →
    (∀ out, RelL R ds out → k (acc ++ out)) → lcD b fc fe γ ds acc k
  | [], acc, _, _, hk => by
    have := hk [] .nil
    rw [List.append_nil] at this
    exact this
  | d :: ds, acc, hl, h, hk => by
    rw [List.length_cons] at hl
    refine h d (List.mem_cons_self ..) (fun x => acc.length < sizeLine ∧ lcD b fc fe γ ds (acc ++ [x]) k) _ (fun x hx => ⟨by omega, lcD_rel R ds _ (by rw [List.length_append, List.length_singleton]; omega) (fun d' hd' => h d' (List.mem_cons_of_mem _ hd')) fun out ho => ?_⟩) fun hx => lcD_rel R ds acc (by omega) (fun d' hd' => h d' (List.mem_cons_of_mem _ hd')) fun out ho => hk _ (.skip hx ho)
    rw [List.append_assoc]
    exact hk _ (.keep hx ho)
theorem relL_fun {g : D → Option D} : ∀ {ds out : List D}, RelL (fun d o => o = g d) ds out → out = ds.filterMap g
  | _, _, .nil => rfl
  | _, _, .skip h r => by rw [List.filterMap_cons, ← h]; exact relL_fun r
  | _, _, .keep h r => by rw [List.filterMap_cons, ← h, relL_fun r]
/-- each item gives one -/
theorem relL_all {R : D → D → Prop} : ∀ {ds out : List D}, RelL (fun d o => ∃ x, o = some x ∧ R d x) ds out → out.length = ds.length ∧ ∀ (i : Nat) d, ds[i]? = some d → ∃ x, out[i]? = some x ∧ R d x
  | _, _, .nil => ⟨rfl, fun i d e => by simp at e⟩
  | _, _, .skip h r => by obtain ⟨x, e, _⟩ := h; cases e
  | _, _, .keep h r => by
    obtain ⟨x, e, q⟩ := h
    cases e
    obtain ⟨h1, h2⟩ := relL_all r
    refine ⟨by rw [List.length_cons, List.length_cons, h1], fun i d e => ?_⟩
    cases i with
    | zero => cases e; exact ⟨_, rfl, q⟩
    | succ i => exact h2 i d e
theorem lcD_fun (g : D → Option D) {k : List D → Prop} (ds : List D) (hl : ds.length ≤ sizeLine)
    (h : ∀ d ∈ ds, ∀ (k1 : D → Prop) (k0 : Prop), (∀ x, g d = some x → k1 x) → (g d = none → k0) → onS (b d γ) fun γ2 => fc γ2 fun c => if c = true then fe γ2 fun t => onS t.plain k1 else k0)
    (hk : k (ds.filterMap g)) : lcD b fc fe γ ds [] k :=
  lcD_rel (fun d o => o = g d) ds [] (by simpa using hl) (fun d hd k1 k0 h1 h0 => h d hd k1 k0 (fun x e => h1 x e.symm) fun e => h0 e.symm) fun out ho => by
    rw [List.nil_append, relL_fun ho]
    exact hk
/-- each item gives g d -/
theorem lcD_map (g : D → D) {k : List D → Prop} (ds : List D) (hl : ds.length ≤ sizeLine) (h : ∀ d ∈ ds, ∀ k1 : D → Prop, k1 (g d) → onS (b d γ) fun γ2 => fe γ2 fun t => onS t.plain k1)
    (hk : k (ds.map g)) : lcD b dYes fe γ ds [] k := by
  refine lcD_fun (fun d => some (g d)) ds hl (fun d hd k1 k0 h1 _ => h d hd k1 (h1 _ rfl)) ?_
  have e : ds.filterMap (fun d => some (g d)) = ds.map g := by
    induction ds with
    | nil => rfl
    | cons d ds ih => simp
  rw [e]
  exact hk
/-- each item gives some x with R d x -/
theorem lcD_each (R : D → D → Prop) {k : List D → Prop} (ds : List D) (hl : ds.length ≤ sizeLine) (h : ∀ d ∈ ds, ∀ k1 : D → Prop, (∀ x, R d x → k1 x) → onS (b d γ) fun γ2 => fe γ2 fun t => onS t.plain k1)
    (hk : ∀ out, out.length = ds.length → (∀ (i : Nat) d, ds[i]? = some d → ∃ x, out[i]? = some x ∧ R d x) → k out) : lcD b dYes fe γ ds [] k :=
  lcD_rel (fun d o => ∃ x, o = some x ∧ R d x) ds [] (by simpa using hl) (fun d hd k1 k0 h1 _ => h d hd k1 fun x hx => h1 x ⟨x, rfl, hx⟩) fun out ho => by
    obtain ⟨h1, h2⟩ := relL_all ho
    rw [List.nil_append]
    exact hk out h1 h2
/-- each item gives x, the same -/
theorem lcD_const (x : D) {k : List D → Prop} (ds : List D) (hl : ds.length ≤ sizeLine) (h : ∀ d ∈ ds, ∀ k1 : D → Prop, k1 x → onS (b d γ) fun γ2 => fe γ2 fun t => onS t.plain k1) (hk : k (List.replicate ds.length x)) : lcD b dYes fe γ ds [] k :=
  lcD_map (fun _ => x) ds hl h (by rw [List.map_const']; exact hk)
/-- those that are chosen -/
theorem lcD_filter (p : D → Bool) (g : D → D) {k : List D → Prop} (ds : List D) (hl : ds.length ≤ sizeLine)
    (h : ∀ d ∈ ds, ∀ (k1 : D → Prop) (k0 : Prop), (p d = true → k1 (g d)) → (p d = false → k0) → onS (b d γ) fun γ2 => fc γ2 fun c => if c = true then fe γ2 fun t => onS t.plain k1 else k0)
    (hk : k ((ds.filter p).map g)) : lcD b fc fe γ ds [] k := by
  refine lcD_fun (fun d => if p d = true then some (g d) else none) ds hl (fun d hd k1 k0 h1 h0 => h d hd k1 k0 (fun e => h1 _ (if_pos e)) fun e => h0 (if_neg (by rw [e]; decide))) ?_
  have e : ds.filterMap (fun d => if p d = true then some (g d) else none) = (ds.filter p).map g := by
    clear hk h hl
    induction ds with
    | nil => rfl
    | cons d ds ih =>
      cases hp : p d with
      | true => simp [hp, ih]
      | false => simp [hp, ih]
  rw [e]
  exact hk
/-! evaluation of what is walked -/
def seqK (Q : List D → Bool → Prop) (t : TV) : Prop := match t.data with
  | some (.list ds) => Q ds (notLv t)
  | some (.tuple ds) => Q ds true
  | some (.str z) => Q (signs z) true
  | _ => False
@[simp] theorem seqK_list {ds : List D} {Q : List D → Bool → Prop} : seqK Q (.pl (.d (.list ds))) = Q ds true := (rfl)
@[simp] theorem seqK_fr {ds : List D} {Q : List D → Bool → Prop} : seqK Q (.fr ds) = Q ds true := (rfl)
@[simp] theorem seqK_lv {ds : List D} {Q : List D → Bool → Prop} : seqK Q (.lv ds) = Q ds false := (rfl)
@[simp] theorem seqK_tup {ds : List D} {Q : List D → Bool → Prop} : seqK Q (.pl (.d (.tuple ds))) = Q ds true := (rfl)
@[simp] theorem seqK_str {z : Str} {Q : List D → Bool → Prop} : seqK Q (.pl (.d (.str z))) = Q (signs z) true := (rfl)
@[simp] theorem ev_seq {Q : List D → Bool → Prop} : dSeq fe γ Q = fe γ (seqK Q) := by
  unfold dSeq seqK
  congr 1
@[simp] theorem ev_for : dFor fi b fg body γ K = fi γ fun ds pl => pl = true ∧ forD b fg body ds γ K := (rfl)
@[simp] theorem ev_lc : dLc fi b vs fc fe γ Q = fi γ fun ds _ => lcD b fc fe (wipeG γ vs) ds [] fun out => Q (.fr out) := (rfl)
def rng1K (Q : List D → Bool → Prop) (ts : List TV) : Prop := match ts with
  | [a] => (match a.data with
    | some (.int j) => -(2 ^ 62) ≤ j ∧ j < 2 ^ 62 ∧ Q (rangeD 0 j.toNat) true
    | _ => False)
  | _ => False
@[simp] theorem ev_rng1 {Q : List D → Bool → Prop} : dRng1 fr γ Q = fr γ (rng1K Q) := (rfl)
@[simp] theorem rng1K_i {Q : List D → Bool → Prop} {j : Int} : rng1K Q [.pl (.d (.int j))] = (-(2 ^ 62) ≤ j ∧ j < 2 ^ 62 ∧ Q (rangeD 0 j.toNat) true) := (rfl)
def rng2K (Q : List D → Bool → Prop) (ts : List TV) : Prop := match ts with
  | [a, b] => (match a.data, b.data with
    | some (.int i), some (.int j) => (-(2 ^ 62) ≤ i ∧ i < 2 ^ 62 ∧ -(2 ^ 62) ≤ j ∧ j < 2 ^ 62) ∧ Q (rangeD i (j - i).toNat) true
    | _, _ => False)
  | _ => False
@[simp] theorem ev_rng2 {Q : List D → Bool → Prop} : dRng2 fr γ Q = fr γ (rng2K Q) := (rfl)
@[simp] theorem rng2K_i {Q : List D → Bool → Prop} {i j : Int} : rng2K Q [.pl (.d (.int i)), .pl (.d (.int j))] = ((-(2 ^ 62) ≤ i ∧ i < 2 ^ 62 ∧ -(2 ^ 62) ≤ j ∧ j < 2 ^ 62) ∧ Q (rangeD i (j - i).toNat) true) := (rfl)
def zipK (Q : List D → Bool → Prop) (ts : List TV) : Prop := match ts with
  | [a, b] => (match a.data, b.data with
    | some (.list xs), some (.list ys) => Q (zipD xs ys) (notLv a && notLv b)
    | some (.tuple xs), some (.tuple ys) => Q (zipD xs ys) true
    | _, _ => False)
  | _ => False
@[simp] theorem ev_zip {Q : List D → Bool → Prop} : dZip fr γ Q = fr γ (zipK Q) := (rfl)
theorem zipK_l {Q : List D → Bool → Prop} {x y : TV} {s t : List D} (hx : x.data = some (.list s)) (hy : y.data = some (.list t)) : zipK Q [x, y] = Q (zipD s t) (notLv x && notLv y) := by
  unfold zipK
  simp only [hx, hy]
@[simp] theorem zipK_t {Q : List D → Bool → Prop} {s t : List D} : zipK Q [.pl (.d (.tuple s)), .pl (.d (.tuple t))] = Q (zipD s t) true := (rfl)
@[simp] theorem notLv_pl {r : RV} : notLv (.pl r) = true := (rfl)
@[simp] theorem notLv_fr {ds : List D} : notLv (.fr ds) = true := (rfl)
@[simp] theorem notLv_lv {ds : List D} : notLv (.lv ds) = false := (rfl)
def enumK (Q : List D → Bool → Prop) (ts : List TV) : Prop := match ts with
  | [a] => (match a.data with
    | some (.list xs) => Q (enumD xs) (notLv a)
    | _ => False)
  | _ => False
@[simp] theorem ev_enum {Q : List D → Bool → Prop} : dEnum fr γ Q = fr γ (enumK Q) := (rfl)
theorem enumK_l {Q : List D → Bool → Prop} {x : TV} {s : List D} (hx : x.data = some (.list s)) : enumK Q [x] = Q (enumD s) (notLv x) := by
  unfold enumK
  simp only [hx]
end
section
variable {x : TV} {Q : TV → Prop}
theorem gAll_of {ds : List D} {bs : List Bool} (hx : x.data = some (.list ds)) (e : ds = bs.map .bool) (h : Q (.pl (.d (.bool (bs.all id))))) : gAll [x] Q := by
  unfold gAll
  simp only [hx, e, blsOf_map]
  exact h
theorem gAny_of {ds : List D} {bs : List Bool} (hx : x.data = some (.list ds)) (e : ds = bs.map .bool) (h : Q (.pl (.d (.bool (bs.any id))))) : gAny [x] Q := by
  unfold gAny
  simp only [hx, e, blsOf_map]
  exact h
theorem gSum_of {ds : List D} {bs : List Int} (hx : x.data = some (.list ds)) (e : ds = bs.map .int) (h : Q (.pl (.d (.int bs.sum)))) : gSum [x] Q := by
  unfold gSum
  simp only [hx, e, intsOf_map]
  exact h
theorem gAll_true {n : Nat} (hx : x.data = some (.list (List.replicate n (.bool true)))) (h : Q (.pl (.d (.bool true)))) : gAll [x] Q := by
  refine gAll_of hx (bs := List.replicate n true) (by rw [List.map_replicate]) ?_
  have e : (List.replicate n true).all id = true := by simp
  rw [e]
  exact h
theorem okMM_ints (n : Int) (ns : List Int) : okMM (.int n :: ns.map .int) := by
  refine ⟨⟨fun x hx y hy => ?_, fun x hx => ?_⟩, ?_, ?_⟩
  · have key : ∀ z, z ∈ (PyData.int n :: ns.map .int) → ∃ i, z = .int i := fun z hz => by
      rcases List.mem_cons.mp hz with rfl | hz
      · exact ⟨_, rfl⟩
      · obtain ⟨i, _, rfl⟩ := List.mem_map.mp hz
        exact ⟨_, rfl⟩
    obtain ⟨i, rfl⟩ := key x hx
    obtain ⟨j, rfl⟩ := key y hy
    simp [alike]
  · rcases List.mem_cons.mp hx with rfl | hx
    · simp
    · obtain ⟨i, _, rfl⟩ := List.mem_map.mp hx
      simp
  · simp only [plainAll_cons, plain_i, Bool.true_and]
    induction ns with
    | nil => simp
    | cons a r ih => simpa using ih
  · have : PyData.depthAll ((n :: ns).map .int) = 0 := depth_ints (n :: ns)
    rw [List.map_cons] at this
    rw [this]
    exact Nat.zero_le _
theorem gMax_ints {ds : List D} {n : Int} {ns : List Int} (hx : x.data = some (.list ds)) (e : ds = (n :: ns).map .int) (h : Q (.pl (.d (.int (ns.foldl max n))))) : gMax [x] Q := by
  unfold gMax
  simp only [hx, e, List.map_cons, maxD_ints]
  exact ⟨okMM_ints n ns, h⟩
theorem gMin_ints {ds : List D} {n : Int} {ns : List Int} (hx : x.data = some (.list ds)) (e : ds = (n :: ns).map .int) (h : Q (.pl (.d (.int (ns.foldl min n))))) : gMin [x] Q := by
  unfold gMin
  simp only [hx, e, List.map_cons, minD_ints]
  exact ⟨okMM_ints n ns, h⟩
@[simp] theorem gMin_ii {i j : Int} : gMin [.pl (.d (.int i)), .pl (.d (.int j))] Q = Q (.pl (.d (.int (if j < i then j else i)))) := (rfl)
@[simp] theorem gMax_ii {i j : Int} : gMax [.pl (.d (.int i)), .pl (.d (.int j))] Q = Q (.pl (.d (.int (if j > i then j else i)))) := (rfl)
end
theorem rangeD_len (lo : Int) (n : Nat) : (rangeD lo n).length = n := by rw [rangeD_def]; simp
theorem rangeD_mem {lo : Int} {n : Nat} {d : D} (h : d ∈ rangeD lo n) : ∃ i : Nat, i < n ∧ d = .int (lo + i) := by
  rw [rangeD_def] at h
  obtain ⟨i, hi, rfl⟩ := List.mem_map.mp h
  exact ⟨i, List.mem_range.mp hi, rfl⟩
end DL
namespace DL
open PySem PySem.Spec
abbrev vI (i : Int) : RV := .d (.int i)
abbrev vB (b : Bool) : RV := .d (.bool b)
abbrev vT (ds : List D) : RV := .d (.tuple ds)
abbrev vL (ds : List D) : RV := .d (.list ds)
abbrev vS (s : Str) : RV := .d (.str s)
abbrev vN : RV := .d .none
abbrev dI (i : Int) : D := .int i
abbrev dB' (b : Bool) : D := .bool b
abbrev dT (ds : List D) : D := .tuple ds
abbrev dL (ds : List D) : D := .list ds
end DL
namespace DL
open PySem PySem.Spec PyProof.Rows L2 PySem.W
section
variable {b : BT} {fg : List Nat} {body : FS} {γ : Gam} {K : DK}
theorem for_ix {ds : List D} (I : Nat → Gam → Prop) (h0 : I 0 γ)
    (hstep : ∀ k d γ, ds[k]? = some d → I k γ → ∃ γ2, b d γ = some γ2 ∧ ∀ K' : DK, (∀ γ', I (k + 1) (wipeG γ' fg) → K'.nx γ') → (∀ γ', I (k + 1) (wipeG γ' fg) → K'.ct γ') → (∀ γ', K.nx (wipeG γ' fg) → K'.bk γ') → (∀ t, K.rt t → K'.rt t) → body γ2 K')
    (hend : ∀ γ, I ds.length γ → K.nx γ) : forD b fg body ds γ K := by
  refine forD_ok (fun es γ => ∃ k, es = ds.drop k ∧ k ≤ ds.length ∧ I k γ) ?_ ?_ ds γ ⟨0, rfl, Nat.zero_le _, h0⟩
  · rintro d es γ ⟨k, e, hk, hI⟩
    have hd : ds[k]? = some d := by
      have := congrArg (fun l => l[0]?) e
      simp at this
      exact this.symm
    have hk2 : k < ds.length := (List.getElem?_eq_some_iff.mp hd).1
    have he : es = ds.drop (k + 1) := by
      have := congrArg List.tail e
      simp at this
      rw [this]
    obtain ⟨γ2, e2, q⟩ := hstep k d γ hd hI
    exact ⟨γ2, e2, fun K' n c r t => q K' (fun γ' h' => n γ' ⟨k + 1, he, hk2, h'⟩) (fun γ' h' => c γ' ⟨k + 1, he, hk2, h'⟩) r t⟩
  · rintro γ ⟨k, e, hk, hI⟩
    have : ds.length ≤ k := by
      have := congrArg List.length e
      simp at this
      omega
    have ek : k = ds.length := by omega
    rw [ek] at hI
    exact hend γ hI
theorem rangeD_get {lo : Int} {n k : Nat} {d : D} (h : (rangeD lo n)[k]? = some d) : k < n ∧ d = .int (lo + k) := by
  rw [rangeD_def] at h
  rw [List.getElem?_map] at h
  by_cases hk : k < n
  · rw [List.getElem?_range hk] at h
    cases h
    exact ⟨hk, rfl⟩
  · rw [List.getElem?_eq_none (by rw [List.length_range]; omega)] at h
    cases h
theorem for_range {lo : Int} {n : Nat} (I : Nat → Gam → Prop) (h0 : I 0 γ)
    (hstep : ∀ (k : Nat) γ, k < n → I k γ → ∃ γ2, b (.int (lo + k)) γ = some γ2 ∧ ∀ K' : DK, (∀ γ', I (k + 1) (wipeG γ' fg) → K'.nx γ') → (∀ γ', I (k + 1) (wipeG γ' fg) → K'.ct γ') → (∀ γ', K.nx (wipeG γ' fg) → K'.bk γ') → (∀ t, K.rt t → K'.rt t) → body γ2 K')
    (hend : ∀ γ, I n γ → K.nx γ) : forD b fg body (rangeD lo n) γ K :=
  for_ix I h0 (fun k d γ hd hI => by
    obtain ⟨hk, rfl⟩ := rangeD_get hd
    exact hstep k γ hk hI) fun γ h => hend γ (by rw [rangeD_len] at h; exact h)
end
theorem foldl_max_eq {x m : Int} {xs : List Int} (h1 : m ∈ x :: xs) (h2 : ∀ y ∈ x :: xs, y ≤ m) : xs.foldl max x = m := by
  have key : ∀ (xs : List Int) (x : Int), x ≤ xs.foldl max x ∧ (∀ y ∈ xs, y ≤ xs.foldl max x) ∧ (xs.foldl max x = x ∨ xs.foldl max x ∈ xs) := by
    intro xs
    induction xs with
    | nil => intro x; simp
    | cons a r ih =>
      intro x
      obtain ⟨i1, i2, i3⟩ := ih (max x a)
      refine ⟨?_, fun y hy => ?_, ?_⟩
      · simp only [List.foldl_cons]; omega
      · simp only [List.foldl_cons]
        rcases List.mem_cons.mp hy with rfl | hy
        · omega
        · exact i2 y hy
      · simp only [List.foldl_cons]
        rcases i3 with i3 | i3
        · rw [i3]
          by_cases h : x ≤ a
          · right; rw [show max x a = a by omega]; exact List.mem_cons_self ..
          · left; omega
        · exact .inr (List.mem_cons_of_mem _ i3)
  obtain ⟨k1, k2, k3⟩ := key xs x
  have : xs.foldl max x ≤ m := by
    rcases k3 with k3 | k3
    · rw [k3]; exact h2 x (List.mem_cons_self ..)
    · exact h2 _ (List.mem_cons_of_mem _ k3)
  rcases List.mem_cons.mp h1 with rfl | h1
  · omega
  · have := k2 m h1
    omega
theorem foldl_min_eq {x m : Int} {xs : List Int} (h1 : m ∈ x :: xs) (h2 : ∀ y ∈ x :: xs, m ≤ y) : xs.foldl min x = m := by
  have key : ∀ (xs : List Int) (x : Int), xs.foldl min x ≤ x ∧ (∀ y ∈ xs, xs.foldl min x ≤ y) ∧ (xs.foldl min x = x ∨ xs.foldl min x ∈ xs) := by
    intro xs
    induction xs with
    | nil => intro x; simp
    | cons a r ih =>
      intro x
      obtain ⟨i1, i2, i3⟩ := ih (min x a)
      refine ⟨?_, fun y hy => ?_, ?_⟩
      · simp only [List.foldl_cons]; omega
      · simp only [List.foldl_cons]
        rcases List.mem_cons.mp hy with rfl | hy
        · omega
        · exact i2 y hy
      · simp only [List.foldl_cons]
        rcases i3 with i3 | i3
        · rw [i3]
          by_cases h : a ≤ x
          · right; rw [show min x a = a by omega]; exact List.mem_cons_self ..
          · left; omega
        · exact .inr (List.mem_cons_of_mem _ i3)
  obtain ⟨k1, k2, k3⟩ := key xs x
  have : m ≤ xs.foldl min x := by
    rcases k3 with k3 | k3
    · rw [k3]; exact h2 x (List.mem_cons_self ..)
    · exact h2 _ (List.mem_cons_of_mem _ k3)
  rcases List.mem_cons.mp h1 with rfl | h1
  · omega
  · have := k2 m h1
    omega
/-- a comparison of what is the same -/
theorem eqT_self {x y : TV} {d : D} (hx : x.data = some d) (hy : y.data = some d) (hp : d.plain = true) (hd : d.depth ≤ 60) : eqT x y = some (.pl (.d (.bool true))) := by
  rw [eqT_of hx hy (okEq_of hp hp (by omega)), SeqAt.eqv_refl_plain d hp]
theorem neT_self {x y : TV} {d : D} (hx : x.data = some d) (hy : y.data = some d) (hp : d.plain = true) (hd : d.depth ≤ 60) : neT x y = some (.pl (.d (.bool false))) := by
  rw [neT_of hx hy (okEq_of hp hp (by omega)), SeqAt.eqv_refl_plain d hp]
  rfl
end DL
namespace DL
open PySem PySem.Spec PyProof.Rows L2 PySem.W
/-- data without dicts, not deep, not long -/
def small : Nat → D → Bool
  | 0, _ => false
  | k + 1, .list ds => decide (ds.length ≤ 100000) && ds.all (small k)
  | k + 1, .tuple ds => decide (ds.length ≤ 100000) && ds.all (small k)
  | _ + 1, .dict _ => false
  | _ + 1, .none => true
  | _ + 1, .bool _ => true
  | _ + 1, .int _ => true
  | _ + 1, .str _ => true
@[simp] theorem small_i {k : Nat} {i : Int} : small (k + 1) (.int i) = true := by simp [small]
@[simp] theorem small_b {k : Nat} {i : Bool} : small (k + 1) (.bool i) = true := by simp [small]
@[simp] theorem small_n {k : Nat} : small (k + 1) .none = true := by simp [small]
@[simp] theorem small_s {k : Nat} {i : Str} : small (k + 1) (.str i) = true := by simp [small]
@[simp] theorem small_l {k : Nat} {ds : List D} : small (k + 1) (.list ds) = (decide (ds.length ≤ 100000) && ds.all (small k)) := by simp [small]
@[simp] theorem small_t {k : Nat} {ds : List D} : small (k + 1) (.tuple ds) = (decide (ds.length ≤ 100000) && ds.all (small k)) := by simp [small]
theorem plainAll_of {ds : List D} (h : ∀ d ∈ ds, d.plain = true) : PyData.plainAll ds = true := by
  induction ds with
  | nil => simp
  | cons a r ih =>
    rw [plainAll_cons, h a (List.mem_cons_self ..), ih fun d hd => h d (List.mem_cons_of_mem _ hd)]
    rfl
theorem depthAll_of {ds : List D} {n : Nat} (h : ∀ d ∈ ds, d.depth ≤ n) : PyData.depthAll ds ≤ n := by
  induction ds with
  | nil => simp
  | cons a r ih =>
    have h1 := h a (List.mem_cons_self ..)
    have h2 := ih fun d hd => h d (List.mem_cons_of_mem _ hd)
    simp [PyData.depthAll]
    omega
theorem small_plain : ∀ {k : Nat} {d : D}, small k d = true → d.plain = true
  | 0, d, h => by cases d <;> cases h
  | k + 1, d, h => by
    cases d with
    | list ds =>
      rw [small_l, Bool.and_eq_true, List.all_eq_true] at h
      rw [plain_l]
      exact plainAll_of fun d hd => small_plain (h.2 d hd)
    | tuple ds =>
      rw [small_t, Bool.and_eq_true, List.all_eq_true] at h
      rw [plain_t]
      exact plainAll_of fun d hd => small_plain (h.2 d hd)
    | dict kvs => simp [small] at h
    | _ => rfl
theorem small_depth : ∀ {k : Nat} {d : D}, small k d = true → d.depth ≤ k
  | 0, d, h => by cases d <;> cases h
  | k + 1, d, h => by
    cases d with
    | list ds =>
      rw [small_l, Bool.and_eq_true, List.all_eq_true] at h
      have := depthAll_of (n := k) fun d hd => small_depth (h.2 d hd)
      simp [PyData.depth]
      omega
    | tuple ds =>
      rw [small_t, Bool.and_eq_true, List.all_eq_true] at h
      have := depthAll_of (n := k) fun d hd => small_depth (h.2 d hd)
      simp [PyData.depth]
      omega
    | dict kvs => simp [small] at h
    | _ => simp
/-- the same data: by _law_is -/
def rsp_is (k : Nat) : Spec := sp2 fun a b Q => ∃ d, a = .d d ∧ b = .d d ∧ small k d = true ∧ Q (vB true)
theorem nrsp_is : ∀ rs Q, rsp_is 0 rs Q → False
  | [], _, h => h
  | [_], _, h => h
  | [_, _], _, ⟨d, _, _, h, _⟩ => by cases d <;> cases h
  | _ :: _ :: _ :: _, _, h => h
theorem zip_self {ds : List D} : zipD ds ds = ds.map fun x => dT [x, x] := by
  unfold zipD
  induction ds with
  | nil => rfl
  | cons a r ih => rw [List.zipWith_cons_cons, ih, List.map_cons]
theorem is_all (j : Nat) {ds : List D} {γ : Gam} {Q : TV → Prop} (h : ∀ d ∈ ds, small j d = true) (hz : ds.length ≤ 100000) (hγ : γ.length = 4) (q : Q (.pl (.d (.bool true)))) :
    lcD (bTup 2 (bCons (bName 2) (bCons (bName 3) bNil))) dYes (dCall (rsp_is j) (dCons (dVar 2) (dCons (dVar 3) dNil))) γ (zipD ds ds) [] fun out => gAll [.fr out] Q := by
  rw [zip_self]
  refine lcD_const (.bool true) _ (by rw [List.length_map]; exact big _ hz) (fun d hd' k1 hk => ?_) (gAll_true rfl q)
  obtain ⟨x, hx, rfl⟩ := List.mem_map.mp hd'
  match γ, hγ with
  | [g0, g1, g2, g3], _ =>
    simp [rsp_is]
    exact ⟨h x hx, hk⟩
end DL

namespace DL
open PySem PySem.Spec PyProof.Rows L2 PySem.W

/-! ### the top's facts -/
def nmOf : Stmt → Str
  | .FunctionDef n _ _ _ _ _ _ _ _ _ => n
  | _ => ""
def ddOf (st : Stmt) : He.DefD := ⟨(nmOf st, none), nmOf st, nmOf st, defArgs st, defBody st, defScope st, [], []⟩
def falOf (defs : List Stmt) (frees : List Str) (gi : List (Str × Int)) (gs : List (Str × Str)) : List He.Fa :=
  defs.map (fun st => .glo (nmOf st)) ++ (frees.map .free ++ (gi.map (fun q => .int q.1 q.2) ++ gs.map fun q => .str q.1 q.2))
def nonB (gn : List Str) (K : PySem.W.Frag) : Bool := gn.all fun x => He.eqO (PySem.W.nsIn K mainGlobals x) (some (some .none))
theorem glob_of {defs : List Stmt} {frees : List Str} {gi : List (Str × Int)} {gs : List (Str × Str)} {gn : List Str} {K : PySem.W.Frag} {h : Heap} {mg : Str → Option Value} (X : K.In h) (G : h.Ns mainGlobals mg) (c : He.SaysD (falOf defs frees gi gs) (defs.map ddOf) K) (cn : nonB gn K = true) : Glob defs frees gi gs gn K mg where
  df := fun i st x hi hx => by
    have hm := List.mem_of_getElem? hi
    obtain ⟨fd, F⟩ := c.defs (d := ddOf st) (List.mem_map.mpr ⟨st, hm, rfl⟩)
    have g1 := He.glo_ok X G (c.facts (f := .glo (nmOf st)) (List.mem_append_left _ (List.mem_map.mpr ⟨st, hm, rfl⟩)))
    have hn : nmOf st = x := hx
    refine ⟨He.ga K x, fd, by rw [← hn]; exact g1, ?_⟩
    rw [← hn]
    exact F
  dg := fun i st x hi hx => by
    have hm := List.mem_of_getElem? hi
    have g1 := He.glo_ok X G (c.facts (f := .glo (nmOf st)) (List.mem_append_left _ (List.mem_map.mpr ⟨st, hm, rfl⟩)))
    have hn : nmOf st = x := hx
    rw [← hn]
    exact g1
  free := fun i x hi => He.free_ok X G (c.facts (List.mem_append_right _ (List.mem_append_left _ (List.mem_map.mpr ⟨x, List.mem_of_getElem? hi, rfl⟩))))
  gint := fun i x n hi => He.int_ok X G (c.facts (List.mem_append_right _ (List.mem_append_right _ (List.mem_append_left _ (List.mem_map.mpr ⟨(x, n), List.mem_of_getElem? hi, rfl⟩)))))
  gstr := fun i x z hi => He.str_ok X G (c.facts (List.mem_append_right _ (List.mem_append_right _ (List.mem_append_right _ (List.mem_map.mpr ⟨(x, z), List.mem_of_getElem? hi, rfl⟩)))))
  gnon := fun i x hi => PySem.W.mg_of X G (He.eqO_ok (List.all_eq_true.mp cn x (List.mem_of_getElem? hi)))
end DL

namespace DL
open PySem PySem.Spec PyProof.Rows L2 PySem.W

/-! ### isinstance, of any data -/
def tyOf : D → String
  | .none => "NoneType"
  | .bool _ => "bool"
  | .int _ => "int"
  | .str _ => "str"
  | .list _ => "list"
  | .tuple _ => "tuple"
  | .dict _ => "dict"
theorem rep_ty {K : PySem.W.Frag} {P : Pd} {H : Hp} {v : V} {d : D} (h : Rep K P H v d) : TyOf K H v (.type (tyOf d)) := by
  cases h with
  | non => exact .non
  | bl b => exact .bl b
  | int i => exact .int i
  | str x => exact .str x
  | lst h _ _ => exact .lst h
  | tup h _ => exact .tup h
  | dK h _ _ => exact .dK h
  | dT h _ _ => exact .dT h
def dIsa (f : D → Bool) (fe : FE) : FE := fun γ Q => fe γ fun t => onS t.data fun d => Q (bv (f d))
@[simp] theorem ev_isa {γ : Gam} {Q : TV → Prop} {fe : FE} {q : D → Bool} : dIsa q fe γ Q = fe γ fun t => onS t.data fun d => Q (.pl (.d (.bool (q d)))) := (rfl)
section
variable {X : Cx} {hv : Hv} {e : Expr} {fe : FE} {p p2 pos : Pos} {x : Str} {T : String} {f : D → Bool}
theorem de_isa (hT : ∀ d : D, PySem.W.kitOne X.K (.type (tyOf d)) (.type T) = some (f d)) (hm : X.mg "isinstance" = none) (hm2 : X.mg x = none) (hb : bootBuiltins x = some (.type T)) (he : DE hv X e fe) (hg : Gl X "isinstance" := by rfl) (hg2 : Gl X x := by rfl) (hn : x ≠ "__name__" := by decide) (hdb : (x == ("__debug__" : Str)) = false := by decide)
    (hs : starEach (e :: [.Name x p2]) X.env = (false, eval e X.env) :: starEach [.Name x p2] X.env := by rfl) (hpl : (backTo pos (starEach [.Name x p2] X.env)).any (·.1) = false := by rfl) : DE hv X (.Call (.Name "isinstance" p) [e, .Name x p2] [] pos) (dIsa f fe) := by
  have hc : CallR X (.builtin "isinstance") (fun xs H Q => ∃ v d, xs = [v, .ty T] ∧ Rep X.K TrueP H v d ∧ Q (.bl (f d)) H) := by
    intro pins s σ H xs us Q I r ⟨v, d, e1, rd, q⟩
    subst e1
    cases r with
    | cons ra rr =>
      cases rr with
      | cons rb rr =>
        cases rr
        cases rb
        exact isinst_ok I ra (rep_ty rd) (hT d) fun tk => ⟨.bl _, H, I.tok _, rfl, q⟩
  refine pe_imp (pe_callB hc hg hm PyProof.Rows.boot_isinstance (pa_cons he (pa_cons (pe_bltn (v := .ty T) hg2 hm2 hb rfl hn hdb) pa_nil) hs) (by decide) (by decide) hs hpl) fun σ H Q ⟨γ, hd, P, Q0, S, ff, k⟩ => ?_
  refine ⟨γ, hd, P, _, S, ff, fun t q v hd1 P1 H1 g1 r1 => ?_⟩
  obtain ⟨d, e1, q⟩ := of_onS q
  exact ⟨v, d, rfl, r1.rep e1, k _ q _ hd1 P1 H1 g1 (Rep.bl _)⟩
theorem isa_int : ∀ d : D, PySem.W.kitOne X.K (.type (tyOf d)) (.type "int") = some (PyData.isInt d) := fun d => by cases d <;> rfl
theorem isa_bool : ∀ d : D, PySem.W.kitOne X.K (.type (tyOf d)) (.type "bool") = some (PyData.isBool d) := fun d => by cases d <;> rfl
theorem isa_str : ∀ d : D, PySem.W.kitOne X.K (.type (tyOf d)) (.type "str") = some (PyData.isStr d) := fun d => by cases d <;> rfl
theorem isa_list : ∀ d : D, PySem.W.kitOne X.K (.type (tyOf d)) (.type "list") = some (PyData.isList d) := fun d => by cases d <;> rfl
theorem isa_tuple : ∀ d : D, PySem.W.kitOne X.K (.type (tyOf d)) (.type "tuple") = some (PyData.isTuple d) := fun d => by cases d <;> rfl
theorem isa_dict : ∀ d : D, PySem.W.kitOne X.K (.type (tyOf d)) (.type "dict") = some (PyData.isDict d) := fun d => by cases d <;> rfl
end
@[simp] theorem isInt_none : PyData.isInt (.none) = false := (rfl)
@[simp] theorem isInt_bool {b : Bool} : PyData.isInt (.bool b) = true := (rfl)
@[simp] theorem isInt_str {s : Str} : PyData.isInt (.str s) = false := (rfl)
@[simp] theorem isInt_list {l : List D} : PyData.isInt (.list l) = false := (rfl)
@[simp] theorem isInt_tuple {l : List D} : PyData.isInt (.tuple l) = false := (rfl)
@[simp] theorem isInt_dict {k : List (D × D)} : PyData.isInt (.dict k) = false := (rfl)
@[simp] theorem isBool_none : PyData.isBool (.none) = false := (rfl)
@[simp] theorem isBool_bool {b : Bool} : PyData.isBool (.bool b) = true := (rfl)
@[simp] theorem isBool_str {s : Str} : PyData.isBool (.str s) = false := (rfl)
@[simp] theorem isBool_list {l : List D} : PyData.isBool (.list l) = false := (rfl)
@[simp] theorem isBool_tuple {l : List D} : PyData.isBool (.tuple l) = false := (rfl)
@[simp] theorem isBool_dict {k : List (D × D)} : PyData.isBool (.dict k) = false := (rfl)
@[simp] theorem isStr_none : PyData.isStr (.none) = false := (rfl)
@[simp] theorem isStr_bool {b : Bool} : PyData.isStr (.bool b) = false := (rfl)
@[simp] theorem isStr_int {i : Int} : PyData.isStr (.int i) = false := (rfl)
@[simp] theorem isStr_str {s : Str} : PyData.isStr (.str s) = true := (rfl)
@[simp] theorem isStr_list {l : List D} : PyData.isStr (.list l) = false := (rfl)
@[simp] theorem isStr_tuple {l : List D} : PyData.isStr (.tuple l) = false := (rfl)
@[simp] theorem isStr_dict {k : List (D × D)} : PyData.isStr (.dict k) = false := (rfl)
@[simp] theorem isList_none : PyData.isList (.none) = false := (rfl)
@[simp] theorem isList_bool {b : Bool} : PyData.isList (.bool b) = false := (rfl)
@[simp] theorem isList_int {i : Int} : PyData.isList (.int i) = false := (rfl)
@[simp] theorem isList_str {s : Str} : PyData.isList (.str s) = false := (rfl)
@[simp] theorem isList_dict {k : List (D × D)} : PyData.isList (.dict k) = false := (rfl)
@[simp] theorem isTuple_none : PyData.isTuple (.none) = false := (rfl)
@[simp] theorem isTuple_bool {b : Bool} : PyData.isTuple (.bool b) = false := (rfl)
@[simp] theorem isTuple_int {i : Int} : PyData.isTuple (.int i) = false := (rfl)
@[simp] theorem isTuple_str {s : Str} : PyData.isTuple (.str s) = false := (rfl)
@[simp] theorem isTuple_dict {k : List (D × D)} : PyData.isTuple (.dict k) = false := (rfl)
@[simp] theorem isDict_none : PyData.isDict (.none) = false := (rfl)
@[simp] theorem isDict_bool {b : Bool} : PyData.isDict (.bool b) = false := (rfl)
@[simp] theorem isDict_int {i : Int} : PyData.isDict (.int i) = false := (rfl)
@[simp] theorem isDict_str {s : Str} : PyData.isDict (.str s) = false := (rfl)
@[simp] theorem isDict_list {l : List D} : PyData.isDict (.list l) = false := (rfl)
@[simp] theorem isDict_tuple {l : List D} : PyData.isDict (.tuple l) = false := (rfl)
@[simp] theorem isDict_dict {k : List (D × D)} : PyData.isDict (.dict k) = true := (rfl)

/-! ### pops: what is given, and what is left -/
def tDw (c : Cfg) (f : Gam → (TV → Gam → Prop) → Prop) : TE := fun σ H Q => ∃ F γ hd P Q0, StF c F γ σ hd P H ∧ f γ Q0 ∧ ∀ t γ', Q0 t γ' → ∀ v hd' P' H', StF c F γ' σ hd' P' H' → Evo c P H P' H' → Grow c F.hd F.P F.H hd' P' H' → Res c hd' P' H' H' v t → Q v H'
abbrev FW := Gam → (TV → Gam → Prop) → Prop
abbrev DV (hv : Hv) (X : Cx) (e : Expr) (f : FW) : Prop := PE X e (tDw ⟨X.K, hv⟩ f)
def dPop0 (i : Nat) : FW := fun γ Q => match γ[i]? with
  | some (.ol ds) => onS ds.getLast? fun d => Q (.pl (.d d)) (γ.set i (.ol ds.dropLast))
  | _ => False
def dPop (i : Nat) (fe : FE) : FW := fun γ Q => match γ[i]? with
  | some (.ol ds) => fe γ (toI fun j => (-(2 ^ 63) ≤ j ∧ j < 2 ^ 63) ∧ onS (ixN ds.length j) fun n => onS (ds[n]?) fun d => Q (.pl (.d d)) (γ.set i (.ol (ds.eraseIdx n))))
  | _ => False
theorem toI_ok {Q : Int → Prop} {t : TV} (h : toI Q t) : ∃ i, t.data = some (.int i) ∧ Q i := by
  unfold toI at h
  split at h
  · exact ⟨_, by assumption, h⟩
  · exact h.elim
def dAsgW (i : Nat) (f : FW) : FS := fun γ K => f γ fun t γ' => onS (putT i t γ') K.nx
def dUnpW (f : FW) (b : BT) : FS := fun γ K => f γ fun t γ' => onS t.plain fun d => onS (b d γ') K.nx
def dExpW (f : FW) : FS := fun γ K => f γ fun _ γ' => K.nx γ'
def dAppW (i : Nat) (f : FW) : FS := fun γ K => match γ[i]? with
  | some (.ol _) => f γ fun t γ' => onS t.plain fun d => match γ'[i]? with
    | some (.ol ds) => ds.length < sizeLine ∧ K.nx (γ'.set i (.ol (ds ++ [d])))
    | _ => False
  | _ => False
section
variable {K : PySem.W.Frag} {P : Pd} {H : Hp}
theorem Reps.last : ∀ {vs : List V} {ds : List D} {d : D}, Reps K P H vs ds → ds.getLast? = some d → ∃ v, vs[vs.length - 1]? = some v ∧ Rep K P H v d := fun {vs ds d} r e => by
  rw [List.getLast?_eq_getElem?] at e
  rw [r.length]
  exact r.get' e
theorem Reps.dropLast {vs : List V} {ds : List D} (r : Reps K P H vs ds) : Reps K P H vs.dropLast ds.dropLast := by
  rw [List.dropLast_eq_take, List.dropLast_eq_take, r.length]
  exact Reps.take _ r
end
section
variable {X : Cx} {hv : Hv} {pos apos cpos p0 : Pos} {fe : FE} {fw : FW} {e : Expr} {i : Nat} {x : Str} {is : List Nat} {bt : BT}
theorem dv_pop0 (hx : PE X (.Name x p0) (tVar i)) (hbase : attributeBase (.Name x p0) "pop" X.env (eval (.Name x p0) X.env) = eval (.Name x p0) X.env := by rfl) (hline : (apos.endLine == cpos.line) = true := by rfl) :
    DV hv X (.Call (.Attribute (.Name x p0) "pop" apos) [] [] cpos) (dPop0 i) :=
  pe_imp (pe_bm0 PySem.F.plainAttrs_list PySem.F.slot_list_pop PySem.F.type_list_pop mt_pop hx hbase hline) fun σ H Q ⟨F, γ, hd, P, Q0, S, q, k⟩ => by
    unfold dPop0 at q
    split at q
    · rename_i ds eg
      obtain ⟨p, vs, h1, nh, h2, h3, np⟩ := S.s.ol i ds eg
      obtain ⟨d, ed, qd⟩ := of_onS q
      obtain ⟨v, hv1, hv2⟩ := h3.last ed
      refine ⟨_, h1, tyL h2, p, vs, v, rfl, rfl, h2, hv1, ?_⟩
      have S' := S.mut (sl := .ol ds.dropLast) (o' := .lst vs.dropLast) eg rfl h1 np nh h2 (fun xs z => by cases z) rfl (fun ds z => by cases z; exact ⟨_, rfl, h3.dropLast⟩) (fun kvs z => by cases z)
      have ev := Evo.mut S (o' := .lst vs.dropLast) np h2 fun xs z => by cases z
      exact k _ _ qd v hd P _ S' ev S'.g (Rep.kept ev hv2)
    · exact q.elim
theorem dv_pop (hx : PE X (.Name x p0) (tVar i)) (he : DE hv X e fe) (hbase : attributeBase (.Name x p0) "pop" X.env (eval (.Name x p0) X.env) = eval (.Name x p0) X.env := by rfl)
    (hfew : ((backTo cpos (starEach [e] X.env)).all (fun x => !x.1) && (backToKw cpos (keywordEach [] X.env)).all (fun x => x.1.isSome) && decide ([e].length + ([] : List Keyword).length + (if ([] : List Keyword).isEmpty then 0 else 1) < 30)) = true := by rfl)
    (hline : (apos.endLine == cpos.line) = true := by rfl) (hs : starEach [e] X.env = (false, eval e X.env) :: starEach [] X.env := by rfl) (hpl : (backTo cpos (starEach [] X.env)).any (·.1) = false := by rfl) :
    DV hv X (.Call (.Attribute (.Name x p0) "pop" apos) [e] [] cpos) (dPop i fe) :=
  pe_imp (pe_bm PySem.F.plainAttrs_list PySem.F.slot_list_pop PySem.F.type_list_pop mt_popAt hx (da_cons he da_nil hs) hbase hfew hline hs hpl) fun σ H Q ⟨F, γ, hd, P, Q0, S, q, k⟩ => by
    unfold dPop at q
    split at q
    · rename_i ds eg
      obtain ⟨p, vs, h1, nh, h2, h3, np⟩ := S.s.ol i ds eg
      refine ⟨_, h1, tyL h2, γ, hd, P, (oneT (toI fun j => (-(2 ^ 63) ≤ j ∧ j < 2 ^ 63) ∧ onS (ixN ds.length j) fun n => onS (ds[n]?) fun d => Q0 (.pl (.d d)) (γ.set i (.ol (ds.eraseIdx n))))), S.s, q, fun ts qt ws hd1 P1 H1 g1 r1 => ?_⟩
      obtain ⟨t, rfl, qt⟩ := oneT_ok qt
      obtain ⟨w, rfl, r2⟩ := ress1 r1
      obtain ⟨j, e1, ⟨b1, b2⟩, qt⟩ := toI_ok qt
      · skip
        obtain ⟨n, en, qt⟩ := of_onS qt
        obtain ⟨d, ed, qd⟩ := of_onS qt
        have hw := r2.int e1
        subst hw
        have S1 := S.grow g1
        obtain ⟨p', vs', e1', nh', h2', h3', np'⟩ := S1.s.ol i ds eg
        rw [h1] at e1'
        cases e1'
        have h4 := g1.keep _ _ h2 nh
        rw [h4] at h2'
        cases h2'
        obtain ⟨v, hv1, hv2⟩ := h3'.get' ed
        refine ⟨p, vs, j, n, v, rfl, rfl, h4, b1, b2, by rw [h3.length]; exact (ixN_seq en).1, hv1, ?_⟩
        have S' := S1.mut (sl := .ol (ds.eraseIdx n)) (o' := .lst (vs.eraseIdx n)) eg rfl h1 np' nh' h4 (fun xs z => by cases z) rfl (fun ds z => by cases z; exact ⟨_, rfl, h3'.erase n⟩) (fun kvs z => by cases z)
        have ev := Evo.mut S1 (o' := .lst (vs.eraseIdx n)) np' h4 fun xs z => by cases z
        exact k _ _ qd v hd1 P1 _ S' ((g1.kept S.s.j).trans ev) S'.g (Rep.kept ev hv2)
    · exact q.elim
theorem ds_asgW {pos' : Pos} (hN : X.N.Nodup) (he : DV hv X e fw) (hi : X.N[i]? = some x := by rfl) (hx : Loc X.env.scope x := by first | exact .inl rfl | exact .inr rfl) (hs : swapsWith e (some (.Name x pos')) pos.line X.env = pure false := by rfl)
    (hf : X.fn x = true ∨ X.env.scope.names.lookup x = some .local := by first | exact .inl rfl | exact .inr rfl) : DS hv X (.Assign [.Name x pos'] e pos) (dAsgW i fw) :=
  ps_imp (ps_set hN hi hx he hs hf) fun D σ H ⟨F, γ, hd, P, K0, S, q, ok⟩ => ⟨F, γ, hd, P, _, S, q, fun t γ1 qt v hd1 P1 H1 S1 ev g1 r1 => by
    obtain ⟨γ', e1, q1⟩ := of_onS qt
    exact ok.nx γ' q1 _ hd1 P1 H1 (S1.put r1 e1 S1.apart0) ev⟩
theorem ds_expW (he : DV hv X e fw) (hs : swapsWith e none pos.line X.env = pure false := by rfl) : DS hv X (.Expr e pos) (dExpW fw) :=
  ps_imp (ps_expr he hs) fun D σ H ⟨F, γ, hd, P, K0, S, q, ok⟩ => ⟨F, γ, hd, P, _, S, q, fun t γ1 qt v hd1 P1 H1 S1 ev g1 r1 => ok.nx γ1 qt σ hd1 P1 H1 S1 ev⟩
theorem ds_unpW {tg : Expr} (he : DV hv X e fw) (hg : DG hv X tg is bt) (hb : BtOk is bt) (hs : swapsWithSole [tg] e pos.line X.env = pure false := by rfl) (hw : swappedStores [tg] e X.env = pure none := by rfl)
    (h1 : (assignEach [tg] X.env).map (·.2) = [assign tg X.env] := by rfl) : DS hv X (.Assign [tg] e pos) (dUnpW fw bt) :=
  ps_imp (ps_asg he hg hs hw h1) fun D σ H ⟨F, γ, hd, P, K0, S, q, ok⟩ => ⟨F, γ, hd, P, _, S, q, fun t γ1 qt v hd1 P1 H1 S1 ev g1 r1 => by
    obtain ⟨d, e1, q1⟩ := of_onS qt
    obtain ⟨γ', e2, q2⟩ := of_onS q1
    obtain ⟨P2, m, r2⟩ := Res.plain S1.s.j r1 e1
    have S2 := S1.more m S1.apart0
    refine ⟨γ1, hd1, P2, d, γ', S2.s, r2, e2, fun σ' S3 st => ?_⟩
    refine ok.nx γ' q2 σ' hd1 P2 H1 (S2.tgt S3 fun k s p ek o r => ?_) (ev.trans m.kept)
    obtain ⟨n1, e3⟩ := hb.own d γ1 γ' e2 k s ek o
    rw [sets_out st n1] at r
    exact S2.fr k s p e3 o r⟩
theorem da_oneW (he : DV hv X e fw) (hs : starEach [e] X.env = (false, eval e X.env) :: starEach [] X.env := by rfl) : PA X [e] (L2.tCons (tDw ⟨X.K, hv⟩ fw) L2.tNil) := pa_cons he pa_nil hs
theorem ds_appW (hx : PE X (.Name x p0) (tVar i)) (he : DV hv X e fw) (hbase : attributeBase (.Name x p0) "append" X.env (eval (.Name x p0) X.env) = eval (.Name x p0) X.env := by rfl)
    (hfew : ((backTo cpos (starEach [e] X.env)).all (fun x => !x.1) && (backToKw cpos (keywordEach [] X.env)).all (fun x => x.1.isSome) && decide ([e].length + ([] : List Keyword).length + (if ([] : List Keyword).isEmpty then 0 else 1) < 30)) = true := by rfl)
    (hline : (apos.endLine == cpos.line) = true := by rfl) (hs : starEach [e] X.env = (false, eval e X.env) :: starEach [] X.env := by rfl) (hpl : (backTo cpos (starEach [] X.env)).any (·.1) = false := by rfl)
    (hsw : swapsWith (.Call (.Attribute (.Name x p0) "append" apos) [e] [] cpos) none pos.line X.env = pure false := by rfl) :
    DS hv X (.Expr (.Call (.Attribute (.Name x p0) "append" apos) [e] [] cpos) pos) (dAppW i fw) :=
  ps_imp (ps_expr (pe_bm PySem.F.plainAttrs_list PySem.F.slot_list_append PySem.F.type_list_append mt_append hx (da_oneW he hs) hbase hfew hline hs hpl) hsw) fun En σ H ⟨F, γ, hd, P, K0, S, q, ok⟩ => by
    unfold dAppW at q
    split at q
    · rename_i ds0 eg
      obtain ⟨p, vs, h1, nh, h2, h3, np⟩ := S.s.ol i ds0 eg
      refine ⟨_, h1, tyL h2, F, γ, hd, P, _, S, q, fun t γ1 qt v hd1 P1 H1 S1 ev g1 r1 => ?_⟩
      obtain ⟨d, e1, qk⟩ := of_onS qt
      split at qk
      · rename_i ds eg1
        obtain ⟨P2, m, r3⟩ := Res.plain S1.s.j r1 e1
        have S2 := S1.more m S1.apart0
        obtain ⟨p', vs', e1', nh', h2', h3', np'⟩ := S2.s.ol i ds eg1
        rw [h1] at e1'
        cases e1'
        exact ⟨p, vs', v, rfl, rfl, h2', by rw [h3'.length]; exact qk.1, ol_done S2 (ok.later (ev.trans m.kept)) eg1 h1 nh' np' h2' (Reps.app h3' (.cons r3 .nil)) qk.2⟩
      · exact qk.elim
    · exact q.elim
end
end DL

namespace DL
open PySem PySem.Spec PyProof.Rows L2 PySem.W

/-! ### range with a step -/
noncomputable def stepD (lo c : Int) (n : Nat) : List D := tab (fun (i : Nat) => .int (lo + (i : Int) * c)) n
theorem stepD_def {lo c : Int} {n : Nat} : stepD lo c n = (List.range n).map fun (i : Nat) => .int (lo + (i : Int) * c) := tab_def
def rng3K (Q : List D → Bool → Prop) (ts : List TV) : Prop := match ts with
  | [a, b, c] => (match a.data, b.data, c.data with
    | some (.int i), some (.int j), some (.int k) => ∃ n, RgC i j k n ∧ Q (stepD i k n) true
    | _, _, _ => False)
  | _ => False
def dRng3 (fr : FA) : FI := fun γ Q => fr γ (rng3K Q)
@[simp] theorem ev_rng3 {γ : Gam} {fr : FA} {Q : List D → Bool → Prop} : dRng3 fr γ Q = fr γ (rng3K Q) := (rfl)
@[simp] theorem rng3K_i {Q : List D → Bool → Prop} {i j k : Int} : rng3K Q [.pl (.d (.int i)), .pl (.d (.int j)), .pl (.d (.int k))] = ∃ n, RgC i j k n ∧ Q (stepD i k n) true := (rfl)
theorem stepD_len (lo c : Int) (n : Nat) : (stepD lo c n).length = n := by rw [stepD_def]; simp
theorem stepD_get {lo c : Int} {n k : Nat} {d : D} (h : (stepD lo c n)[k]? = some d) : k < n ∧ d = .int (lo + k * c) := by
  rw [stepD_def] at h
  rw [List.getElem?_map] at h
  by_cases hk : k < n
  · rw [List.getElem?_range hk] at h
    cases h
    exact ⟨hk, rfl⟩
  · rw [List.getElem?_eq_none (by rw [List.length_range]; omega)] at h
    cases h
section
variable {c : Cfg} {hd : Hd} {P : Pd} {H : Hp}
noncomputable def wk_rangeC {lo k : Int} {n : Nat} : Wk c (Itc lo k n) (stepD lo k n) true P H hd where
  Pw := fun _ => False
  G := fun _ => True
  Y := YFn fun i => .int (lo + (i : Nat) * k)
  walk := by
    rw [stepD_len]; exact walk_rangeC
  good := fun _ _ => trivial
  free := fun a e => e.elim
  own := fun e a h => h.elim
  item := fun i H1 x H2 hd1 P1 s k' j hi ⟨e, hx⟩ => by
    subst e hx
    have hn : i < n := by rw [stepD_len] at hi; exact hi
    refine ⟨.int (lo + (i : Nat) * k), ?_, j.refl, .int _⟩
    rw [stepD_def]
    rw [List.getElem?_map, List.getElem?_range hn]
    rfl
end
section
variable {X : Cx} {hv : Hv} {tg e e2 e3 : Expr} {fr : FA} {p pos : Pos}
theorem di_rng3 (hm : X.mg "range" = none) (ha : DA hv X [e, e2, e3] fr) (hg : Gl X "range" := by rfl) (hs : starEach [e, e2, e3] X.env = (false, eval e X.env) :: starEach [e2, e3] X.env := by rfl) (hpl : (backTo pos (starEach [e2, e3] X.env)).any (·.1) = false := by rfl) :
    DI hv X tg (.Call (.Name "range" p) [e, e2, e3] [] pos) (dRng3 fr) := by
  refine pi_imp (pi_range3 hg hm ha hs hpl) fun σ H R ⟨γ, hd, P, Q0, S, f, k⟩ => ?_
  refine ⟨γ, hd, P, _, S, f, fun ts q vs hd1 P1 H1 g1 r1 => ?_⟩
  unfold rng3K at q
  split at q
  · rename_i a b c
    split at q
    · rename_i i j l e1 e2 e3
      cases r1 with
      | cons ra rr =>
        cases rr with
        | cons rb rr =>
          cases rr with
          | cons rc rr =>
            cases rr
            obtain ⟨n, h, q⟩ := q
            exact ⟨i, j, l, n, by rw [ra.int e1, rb.int e2, rc.int e3], h, k _ _ q hd1 P1 H1 _ g1 ⟨wk_rangeC⟩⟩
    · exact q.elim
  · exact q.elim
end

/-! ### data that can be shown -/
def rOk : Nat → D → Bool
  | 0, _ => false
  | k + 1, .list ds => ds.all (rOk k)
  | k + 1, .tuple ds => ds.all (rOk k)
  | _ + 1, .dict _ => false
  | _ + 1, .none => true
  | _ + 1, .bool _ => true
  | _ + 1, .int i => decide (i.natAbs < 10 ^ 12)
  | _ + 1, .str x => x.cps.toList.all fun c => decide (c < 16 ^ 8)
section
variable {k : Nat} {ds : List D}
@[simp] theorem rOk_i {i : Int} : rOk (k + 1) (.int i) = decide (i.natAbs < 10 ^ 12) := by simp [rOk]
@[simp] theorem rOk_b {i : Bool} : rOk (k + 1) (.bool i) = true := by simp [rOk]
@[simp] theorem rOk_n : rOk (k + 1) .none = true := by simp [rOk]
@[simp] theorem rOk_s {x : Str} : rOk (k + 1) (.str x) = x.cps.toList.all fun c => decide (c < 16 ^ 8) := by simp [rOk]
@[simp] theorem rOk_l : rOk (k + 1) (.list ds) = ds.all (rOk k) := by simp [rOk]
@[simp] theorem rOk_t : rOk (k + 1) (.tuple ds) = ds.all (rOk k) := by simp [rOk]
end
theorem showableAll_of {ds : List D} (h : ∀ d ∈ ds, d.showable = true) : PyData.showableAll ds = true := by
  induction ds with
  | nil => simp [PyData.showableAll]
  | cons a r ih => simp [PyData.showableAll, h a (List.mem_cons_self ..), ih fun d hd => h d (List.mem_cons_of_mem _ hd)]
theorem leavesAll_of {ds : List D} {B : Nat} (h : ∀ d ∈ ds, d.leavesShort B = true) : PyData.leavesShortAll B ds = true := by
  induction ds with
  | nil => simp [PyData.leavesShortAll]
  | cons a r ih => simp [PyData.leavesShortAll, h a (List.mem_cons_self ..), ih fun d hd => h d (List.mem_cons_of_mem _ hd)]
theorem rOk_plain : ∀ {k : Nat} {d : D}, rOk k d = true → d.plain = true
  | 0, d, h => by cases d <;> cases h
  | k + 1, d, h => by
    cases d with
    | list ds => rw [rOk_l, List.all_eq_true] at h; rw [plain_l]; exact plainAll_of fun d hd => rOk_plain (h d hd)
    | tuple ds => rw [rOk_t, List.all_eq_true] at h; rw [plain_t]; exact plainAll_of fun d hd => rOk_plain (h d hd)
    | dict kvs => simp [rOk] at h
    | _ => rfl
theorem rOk_depth : ∀ {k : Nat} {d : D}, rOk k d = true → d.depth ≤ k
  | 0, d, h => by cases d <;> cases h
  | k + 1, d, h => by
    cases d with
    | list ds =>
      rw [rOk_l, List.all_eq_true] at h
      have := depthAll_of (n := k) fun d hd => rOk_depth (h d hd)
      simp [PyData.depth]; omega
    | tuple ds =>
      rw [rOk_t, List.all_eq_true] at h
      have := depthAll_of (n := k) fun d hd => rOk_depth (h d hd)
      simp [PyData.depth]; omega
    | dict kvs => simp [rOk] at h
    | _ => simp
theorem rOk_show : ∀ {k : Nat} {d : D}, rOk k d = true → d.showable = true
  | 0, d, h => by cases d <;> cases h
  | k + 1, d, h => by
    cases d with
    | list ds => rw [rOk_l, List.all_eq_true] at h; rw [PyData.showable]; exact showableAll_of fun d hd => rOk_show (h d hd)
    | tuple ds => rw [rOk_t, List.all_eq_true] at h; rw [PyData.showable]; exact showableAll_of fun d hd => rOk_show (h d hd)
    | dict kvs => simp [rOk] at h
    | int i =>
      rw [rOk_i, decide_eq_true_eq] at h
      rw [PyData.showable, decide_eq_true_eq]
      have h10 : i.natAbs < 2 ^ 40 := by omega
      exact Nat.lt_of_lt_of_le (PySem.Flt.log2_lt_of (by decide) h10) (by decide)
    | _ => simp [PyData.showable]
theorem rOk_leaf : ∀ {k : Nat} {d : D}, rOk k d = true → d.leavesShort 13 = true
  | 0, d, h => by cases d <;> cases h
  | k + 1, d, h => by
    cases d with
    | list ds => rw [rOk_l, List.all_eq_true] at h; rw [PyData.leavesShort]; exact leavesAll_of fun d hd => rOk_leaf (h d hd)
    | tuple ds => rw [rOk_t, List.all_eq_true] at h; rw [PyData.leavesShort]; exact leavesAll_of fun d hd => rOk_leaf (h d hd)
    | dict kvs => simp [rOk] at h
    | int i =>
      rw [rOk_i, decide_eq_true_eq] at h
      rw [PyData.leavesShort, decide_eq_true_eq]
      exact PyData.shown_int_le h
    | str x => rw [rOk_s] at h; simpa only [PyData.leavesShort] using h
    | _ => simp [PyData.leavesShort]
theorem okRepr_of {k : Nat} {d : D} (h : rOk k d = true) (hk : k ≤ 60) (hw : d.weight ≤ 2 ^ 20) : okRepr d = true := by
  unfold okRepr
  rw [rOk_plain h, rOk_show h, rOk_leaf h, Bool.true_and, Bool.true_and, Bool.true_and, decide_eq_true hw, Bool.true_and]
  exact decide_eq_true (Nat.le_trans (rOk_depth h) hk)
section
variable {d : D} {ds : List D}
theorem weight_i {i : Int} (h : i.natAbs < 10 ^ 12) : (PyData.int i).weight ≤ 40 := by
  rw [PyData.weight]
  split
  · omega
  · have h10 : i.natAbs < 2 ^ 40 := by omega
    have := PySem.Flt.log2_lt_of (k := 40) (by decide) h10
    omega
@[simp] theorem weight_b {i : Bool} : (PyData.bool i).weight = 0 := by simp [PyData.weight]
@[simp] theorem weight_n : (PyData.none).weight = 0 := by simp [PyData.weight]
@[simp] theorem weight_l : (PyData.list ds).weight = PyData.weightAll ds := by simp [PyData.weight]
@[simp] theorem weight_t : (PyData.tuple ds).weight = PyData.weightAll ds := by simp [PyData.weight]
@[simp] theorem weightAll_nil : PyData.weightAll [] = 0 := by simp [PyData.weightAll]
@[simp] theorem weightAll_cons : PyData.weightAll (d :: ds) = d.weight + 1 + PyData.weightAll ds := by simp [PyData.weightAll]
theorem weightAll_le {n : Nat} (h : ∀ d ∈ ds, d.weight ≤ n) : PyData.weightAll ds ≤ ds.length * (n + 1) := by
  induction ds with
  | nil => simp
  | cons a r ih =>
    have h1 := h a (List.mem_cons_self ..)
    have h2 := ih fun d hd => h d (List.mem_cons_of_mem _ hd)
    rw [weightAll_cons, List.length_cons, Nat.add_mul, Nat.one_mul]
    omega
end
section
variable {x : TV} {Q : TV → Prop} {ds : List D} {i : Int} {b : Bool}
theorem gRepr_of {d : D} (hx : x.data = some d) (ho : okRepr d = true) (hn : (∃ ds, d = .list ds) ∨ (∃ ds, d = .tuple ds)) : gRepr [x] Q = Q (.pl (.d (.str d.shown))) := by
  rcases hn with ⟨ds, rfl⟩ | ⟨ds, rfl⟩
  · unfold gRepr; simp only [hx, ho, true_and]; rfl
  · unfold gRepr; simp only [hx, ho, true_and]; rfl
@[simp] theorem gRepr_i : gRepr [.pl (.d (.int i))] Q = (i.natAbs < 10 ^ 12 ∧ Q (.pl (.d (.str (PyData.shown (.int i)))))) := (rfl)
@[simp] theorem gRepr_b : gRepr [.pl (.d (.bool b))] Q = Q (.pl (.d (.str (PyData.shown (.bool b))))) := (rfl)
@[simp] theorem gRepr_n : gRepr [.pl (.d .none)] Q = Q (.pl (.d (.str (PyData.shown .none)))) := (rfl)
@[simp] theorem gRepr_t : gRepr [.pl (.d (.tuple ds))] Q = (okRepr (.tuple ds) = true ∧ Q (.pl (.d (.str (PyData.shown (.tuple ds)))))) := (rfl)
@[simp] theorem gRepr_l : gRepr [.pl (.d (.list ds))] Q = (okRepr (.list ds) = true ∧ Q (.pl (.d (.str (PyData.shown (.list ds)))))) := (rfl)
@[simp] theorem gRepr_fr : gRepr [.fr ds] Q = (okRepr (.list ds) = true ∧ Q (.pl (.d (.str (PyData.shown (.list ds)))))) := (rfl)
@[simp] theorem gRepr_lv : gRepr [.lv ds] Q = (okRepr (.list ds) = true ∧ Q (.pl (.d (.str (PyData.shown (.list ds)))))) := (rfl)
@[simp] theorem gTuple_l : gTuple [.pl (.d (.list ds))] Q = Q (.pl (.d (.tuple ds))) := (rfl)
@[simp] theorem gTuple_fr : gTuple [.fr ds] Q = Q (.pl (.d (.tuple ds))) := (rfl)
@[simp] theorem gTuple_lv : gTuple [.lv ds] Q = Q (.pl (.d (.tuple ds))) := (rfl)
@[simp] theorem gTuple_t : gTuple [.pl (.d (.tuple ds))] Q = Q (.pl (.d (.tuple ds))) := (rfl)
@[simp] theorem gList_l : gList [.pl (.d (.list ds))] Q = Q (.fr ds) := (rfl)
@[simp] theorem gList_fr : gList [.fr ds] Q = Q (.fr ds) := (rfl)
@[simp] theorem gList_lv : gList [.lv ds] Q = Q (.fr ds) := (rfl)
@[simp] theorem gList_t : gList [.pl (.d (.tuple ds))] Q = Q (.fr ds) := (rfl)
end
end DL
namespace DL
open PySem PySem.Spec PyProof.Rows L2 PySem.W
section
variable {x y : TV} {s t : List D} {i : Int}
theorem add_ll (hx : x.data = some (.list s)) (hy : y.data = some (.list t)) (h : s.length + t.length ≤ 100000) : addT x y = some (.fr (s ++ t)) := by
  unfold addT
  simp only [hx, hy]
  exact if_pos (big _ h)
theorem add_tt (h : s.length + t.length ≤ 100000) : addT (.pl (.d (.tuple s))) (.pl (.d (.tuple t))) = some (.pl (.d (.tuple (s ++ t)))) := if_pos (big _ h)
theorem mul_li (hx : x.data = some (.list s)) (h0 : 0 ≤ i) (h1 : i < 2 ^ 63) (h : s.length * i.toNat ≤ 100000) : mulT x (.pl (.d (.int i))) = some (.fr (List.replicate i.toNat s).flatten) := by
  unfold mulT
  simp only [hx, data_pl]
  exact if_pos ⟨by omega, h1, big _ h⟩
end
end DL

namespace DL
open PySem PySem.Spec PyProof.Rows L2 PySem.W
set_option maxHeartbeats 1000000 in
theorem meets_enumerate_new1 {v : Value} {o : Obj} {H : Heap → Prop} (B : Begins v o H) :
    PySem.Meets (Builtin.«enumerate.__new__» ⟨[.type "enumerate", v], []⟩) (fun _ R s => H s.heap ∧
      R (.ok (.ret (.ref (s.heap.push o).objs.size))) { s with heap := (s.heap.push o).push { cls := .type "enumerate", data := .fields #[.none, .bool false, .ref s.heap.objs.size, rawInt 0, .none, .none] } }) :=
  .of_wp fun prog w A R s h => by
    obtain ⟨hp, g, d, tk, os⟩ := s; obtain ⟨h1, h⟩ := h
    have hsub := sub_enumerate
    have q1 : ∀ {A' : Around} {E : Value → Shared → Prop} {Q : Value → Shared → Prop}, Q (.ref hp.objs.size) ⟨hp.push o, g, d, tk, os⟩ → wpAny (model prog w) A' (pyIter v) Q E ⟨hp, g, d, tk, os⟩ :=
      fun q => B.iter prog w _ _ ⟨hp, g, d, tk, os⟩ _ h1 q
    wp_walk using q1
    refine wpAny_stack_any fun st => wpAny_pure ?_
    split
    · rename_i c _ _ _ _ _
      cases (c == Value.type "enumerate")
      · wp_walk using q1
        exact ⟨_, rfl, h⟩
      · wp_walk using q1
        exact ⟨_, rfl, h⟩
    · wp_walk using q1
      exact ⟨_, rfl, h⟩
theorem enum1_begins {prog : Program} {w : World} {A : Around} {E : Value → Shared → Prop} {s : Shared} {v : Value} {o : Obj} {H : Heap → Prop} {Q : Value → Shared → Prop} (B : Begins v o H) (h1 : H s.heap)
    (h : ∀ h', IsEnum h' (s.heap.objs.size + 1) s.heap.objs.size 0 .none → h'.get? s.heap.objs.size = some o → h'.objs.size = s.heap.objs.size + 2 →
      (∀ b o, s.heap.get? b = some o → h'.get? b = some o) → Q (.ref (s.heap.objs.size + 1)) { s with heap := h' }) :
    wpAny (model prog w) A (call (.type "enumerate") [v]) Q E s := by
  refine callType_new F.called_enumerate (by decide) (F.typeCall_enumerate_1 _) (F.newCall_enumerate_1 _) (fun obj => F.args_object_init_2 obj _) F.entry_enumerate_new
    (meets_enumerate_new1 B) ⟨h1, ?_⟩
  have hz : (s.heap.push o).objs.size = s.heap.objs.size + 1 := Heap.size_push ..
  show _ ∧ _
  rw [hz]
  have he : IsEnum ((s.heap.push o).push { cls := .type "enumerate", data := .fields #[.none, .bool false, .ref s.heap.objs.size, rawInt 0, .none, .none] }) (s.heap.objs.size + 1) s.heap.objs.size 0 .none := by
    have := Heap.get?_push_size (s.heap.push o) (o := { cls := .type "enumerate", data := .fields #[.none, .bool false, .ref s.heap.objs.size, rawInt 0, .none, .none] }) rfl
    rw [hz] at this; exact this
  refine ⟨⟨_, he, rfl⟩, h _ he (Heap.get?_push_of_some _ (Heap.get?_push_size _ B.free)) (by rw [Heap.size_push, hz]) fun b o x => Heap.get?_push_of_some _ (Heap.get?_push_of_some _ x)⟩

/-! ### enumerate(tuple) -/
def Itet (K : PySem.W.Frag) (a : Addr) : It :=
  ⟨fun i H => ∃ (xs : List V) (x : V), SqT K H a xs ∧ xs[i]? = some x, fun i H v H' => ∃ T x, v = .ref T ∧ H T = none ∧ H' = upd H T (.tup [.int (i : Nat), x]) ∧ ∀ xs, SqT K H a xs → xs[i]? = some x, fun i H => ∃ xs : List V, SqT K H a xs ∧ xs.length ≤ i⟩
theorem apart_cls {h : Heap} {a b : Addr} {o o' : Obj} (h1 : h.get? a = some o) (h2 : h.get? b = some o') (hc : o.cls ≠ o'.cls) : a ≠ b := fun e => by
  rw [e, h2] at h1
  cases h1
  exact hc rfl
theorem turn_enumT {P : Program} {w : World} {K : PySem.W.Frag} {elts : List Expr} {kk : Nat} {tpos : Pos} (a e it : Addr) :
    Turn P w K (.Tuple elts kk tpos) (Itet K a) [e, it] e (fun i h => (∃ old, IsEnum h e it ((i : Nat) : Int) old) ∧ h.IsTupleIter it a i ∧ e ≠ it) where
  mem := by simp
  obj := fun i h st b hb => by
    obtain ⟨⟨old, he⟩, ⟨o, ho, hc, hd⟩, _⟩ := st
    have e' : b = e ∨ b = it := by simpa using hb
    rcases e' with z | z
    · rw [z]; exact ⟨_, he, fun v q => nomatch q⟩
    · rw [z]; exact ⟨o, ho, fun v q => by rw [hd] at q; cases q⟩
  keep := fun i h h' st k => let ⟨⟨old, he⟩, hi, hne⟩ := st; ⟨⟨old, k e (by simp) _ he⟩, hi.at fun o q => k it (by simp) o q, hne⟩
  item := by
    intro X hP hw hK hc i pins s σ H E I hf st hg
    subst hP hw hK
    obtain ⟨⟨old, he⟩, hit, hne⟩ := st
    obtain ⟨xs, x, hq, hx⟩ := hg
    obtain ⟨its, rv, p, hz⟩ := I.tuple hq
    obtain ⟨u, hu, ru⟩ := rv.get hx
    have hel : e < s.heap.objs.size := Heap.lt_size he
    have hil : it < s.heap.objs.size := by obtain ⟨_, q, _⟩ := hit; exact Heap.lt_size q
    have hai : a ≠ it := by
      obtain ⟨o, h1, h2, _⟩ := p
      obtain ⟨o', h3, h4, _⟩ := hit
      exact apart_cls h1 h3 (by rw [h2, h4]; show Value.type "tuple" ≠ Value.type "tuple_iterator"; decide)
    have hea : e ≠ a := by
      obtain ⟨o, h1, h2, _⟩ := p
      exact apart_cls he h1 (by rw [h2]; show Value.type "enumerate" ≠ Value.type "tuple"; decide)
    have D := Draws.tuple (prog := X.prog) (w := X.w) (A := X.A.in1) (I.ok.hd hc) it a hai its.toArray
    have hi : i < its.toArray.size := by
      have := rv.length
      have := (List.getElem?_eq_some_iff.mp hx).1
      simp; omega
    refine wpAny_pyNext_enum_itemD D he ⟨hit, p⟩ hi hne (by simp [hne, hea]) fun y h' tk hy ho hst' hT hsz hk => ?_
    have ey : y = u := by
      have h1 : its[i]? = some y := by simpa using hy
      rw [hu] at h1
      cases h1; rfl
    subst ey
    refine ⟨_, rfl, wpAny_letOwnedTupleGo_enum (s := { s with heap := h', toks := tk + 1 }) ho fun h'' he' sb => ?_⟩
    have hT2 : h''.get? s.heap.objs.size = some { cls := .type "tuple", data := .seq #[.int i tk, y] } := (sb.2 _ (Nat.ne_of_gt hel)).trans hT
    have new : ObjOk X.prog X.w (upd H s.heap.objs.size (.tup [.int (i : Nat), x])) h'' s.heap.objs.size (.tup [.int (i : Nat), x]) :=
      ⟨by show 2 ≤ sizeLine; decide, [.int i tk, y], .cons ⟨_, rfl⟩ (.cons ru .nil), ⟨_, hT2, rfl, _, rfl⟩⟩
    have I1 : Inv X pins σ (upd H s.heap.objs.size (.tup [.int (i : Nat), x])) { s with heap := h'', toks := tk + 1 } :=
      I.turnedNew (ch := [e, it]) (fun b ob hb q => (sb.2 b (fun z => hb (by simp [z]))).trans (hk b ob (fun z => hb (by simp [z])) (fun z => hb (by simp [z])) q)) hf (Nat.le_refl _) new
    refine ⟨.ref s.heap.objs.size, _, I1, rfl, ⟨_, x, rfl, I.hok.fresh (Nat.le_refl _), rfl, fun ys hy => by rw [I.tuple_inj hy hq]; exact hx⟩, ⟨⟨y, ?_⟩, hst'.1.at fun o q => (sb.2 it (Ne.symm hne)).trans q, hne⟩, fun b hb => ?_⟩
    · have e1 : ((i + 1 : Nat) : Int) = (i : Int) + 1 := by omega
      rw [e1]; exact he'
    · have hb' : b < s.heap.objs.size := by
        have e' : b = e ∨ b = it := by simpa using hb
        rcases e' with z | z
        · rw [z]; exact hel
        · rw [z]; exact hil
      rw [upd_ne (Nat.ne_of_lt hb')]
      exact (hf b hb).1
  done := by
    intro X hP hw hK hc i pins s σ H E I hf st hg
    subst hP hw hK
    obtain ⟨⟨old, he⟩, hit, hne⟩ := st
    obtain ⟨xs, hq, hx⟩ := hg
    obtain ⟨its, rv, p, hz⟩ := I.tuple hq
    obtain ⟨f0, f1, f2, f3, f4, f5⟩ := hf it (by simp)
    have hl := rv.length
    have hT : s.TypeIs (.ref e) "enumerate" := ⟨_, he, rfl⟩
    unfold pyNext
    refine wpAny_bind (wpAny_attempt (wpAny_callSpecial?_slot (name := Str.ofString "__next__") hT F.slot_enumerate_next
      (wpAny_call_entry F.slot_enumerate_next hT F.entry_enumerate_next ?_ (F.args_enumerate_next_1 _))))
    show wpAny _ _ (field (.ref e) 2 >>= _) _ _ _
    refine wpAny_bind (wpAny_field he rfl (x := .ref it) rfl ?_)
    refine wpAny_bind (wpAny_nextOf_tuple_end (I.ok.hd hc) hit (show s.heap.IsTuple a its.toArray from p) (by simp; omega) fun h' x he' hx' => ?_)
    obtain ⟨o, ho, hc⟩ := hx'
    refine wpAny_bind (wpAny_isInstance (T := "StopIteration") (b := true) ⟨o, ho, hc⟩ isSubtype_stop ?_)
    exact wpAny_pure ⟨rfl, I.turned (t' := s.toks) (fun b o hb q => he' b o hb q) f0 f1 f3 f4 f5⟩
  self := fun A i s Q E st h => let ⟨⟨_, he⟩, _⟩ := st; wpAny_pyIter_enum he h
def iEnumT (K : PySem.W.Frag) (ta : TA) : TI := fun σ H R => ta σ H fun vs H1 => ∃ a, vs = [.ref a] ∧ ((∃ xs, SqL K H1 a xs ∧ R (Ite K a) H1) ∨ ∃ xs, SqT K H1 a xs ∧ R (Itet K a) H1)
theorem pi_enumT {X : Cx} {e : Expr} {ta : TA} {p pos tpos : Pos} {elts : List Expr} {kk : Nat} (hg : Gl X "enumerate") (hm : X.mg "enumerate" = none) (ha : PA X [e] ta) (hs : starEach [e] X.env = [(false, eval e X.env)] := by rfl) :
    PI X (.Tuple elts kk tpos) (.Call (.Name "enumerate" p) [e] [] pos) (iEnumT X.K ta) := by
  refine ⟨fun pins s σ H R I h => ?_⟩
  refine Call_ (ld_blt I hg hm boot_enumerate (PyProof.Rows.callWith_type1 (thn (ha.run pos pins s σ H _ I h) fun us s1 ⟨vs, H1, I1, r1, q1⟩ => ?_) hs rfl))
  obtain ⟨a, ex, q1⟩ := q1
  subst ex
  cases r1 with
  | cons r rr =>
    cases rr
    cases r
    have fp : ∀ b : Addr, b ∈ [s1.heap.objs.size + 1, s1.heap.objs.size] → s1.heap.objs.size ≤ b := fun b hb => by
      have e' : b = s1.heap.objs.size + 1 ∨ b = s1.heap.objs.size := by simpa using hb
      rcases e' with z | z
      · rw [z]; exact Nat.le_add_right _ _
      · rw [z]; exact Nat.le_refl _
    rcases q1 with ⟨xs, hq, q⟩ | ⟨xs, hq, q⟩
    · obtain ⟨its, rv, p', hz⟩ := I1.list hq
      refine call_enumerate_list p'.isList fun h' he hit hsz hk => wpAny_pyIter_enum he ?_
      have I2 : Inv X pins σ H1 { s1 with heap := h' } := I1.kept (t' := s1.toks) hk
      exact ⟨s1.heap.objs.size + 1, [s1.heap.objs.size + 1, s1.heap.objs.size], _, _, H1, rfl, I2, turn_enum a (s1.heap.objs.size + 1) s1.heap.objs.size, ⟨⟨.none, he⟩, hit, Nat.succ_ne_self _⟩, fun b hb => I1.fpOk (fp b hb) (I1.hok.fresh (fp b hb)), q⟩
    · obtain ⟨its, rv, p', hz⟩ := I1.tuple hq
      refine enum1_begins (begins_tuple a its.toArray) p' fun h' he hit hsz hk => wpAny_pyIter_enum he ?_
      have I2 : Inv X pins σ H1 { s1 with heap := h' } := I1.kept (t' := s1.toks) hk
      exact ⟨s1.heap.objs.size + 1, [s1.heap.objs.size + 1, s1.heap.objs.size], _, _, H1, rfl, I2, turn_enumT a (s1.heap.objs.size + 1) s1.heap.objs.size, ⟨⟨.none, he⟩, ⟨_, hit, rfl, rfl⟩, Nat.succ_ne_self _⟩, fun b hb => I1.fpOk (fp b hb) (I1.hok.fresh (fp b hb)), q⟩
theorem walk_enumT {K : PySem.W.Frag} {a : Addr} {xs : List V} : Walk (Itet K a) xs.length (fun H => SqT K H a xs) (YPair (fun i => some (.int (i : Nat))) (fun i => xs[i]?)) := by
  refine ⟨fun i _ hi q => ⟨xs, xs[i], q, by simp [hi]⟩, fun _ q => ⟨xs, q, Nat.le_refl _⟩, fun i H v H' _ q y => ?_⟩
  obtain ⟨T, x, h1, h2, h3, h4⟩ := y
  exact ⟨T, .int (i : Nat), x, h1, h2, h3, rfl, h4 xs q⟩
def enumTK (Q : List D → Bool → Prop) (ts : List TV) : Prop := match ts with
  | [a] => (match a.data with
    | some (.list xs) => Q (enumD xs) (notLv a)
    | some (.tuple xs) => Q (enumD xs) true
    | _ => False)
  | _ => False
def dEnumT (fr : FA) : FI := fun γ Q => fr γ (enumTK Q)
section
variable {c : Cfg} {hd : Hd} {P : Pd} {H : Hp}
def wk_enumT {K : PySem.W.Frag} {hv : Hv} {a : Addr} {vs : List V} {xs : List D} (h1 : H a = some (.tup vs)) (r1 : Reps K P H vs xs) :
    Wk ⟨K, hv⟩ (Itet K a) (enumD xs) true P H hd where
  Pw := fun _ => False
  G := fun H => SqT K H a vs
  Y := YPair (fun i => some (.int (i : Nat))) (fun i => vs[i]?)
  walk := by
    have e : (enumD xs).length = vs.length := by unfold enumD; rw [List.length_mapIdx, r1.length]
    rw [e]
    exact walk_enumT
  good := fun H1 s => SqT.of (s a _ h1 (.inr ⟨_, rfl⟩))
  free := fun q e => e.elim
  own := fun e q h => h.elim
  item := fun i H1 v H2 hd1 P1 s k j hi ⟨T, x, y, e1, e2, e3, e4, e5⟩ => by
    cases e4
    subst e1 e3
    obtain ⟨d1, q1, p1⟩ := r1.get e5
    obtain ⟨g, r⟩ := pair_new j e2 (.int (i : Int)) (Rep.kept k p1)
    refine ⟨_, ?_, g, r⟩
    unfold enumD
    rw [List.getElem?_mapIdx, q1]
    rfl
end
section
variable {X : Cx} {hv : Hv} {e : Expr} {fr : FA} {p pos tpos : Pos} {elts : List Expr} {kk : Nat}
theorem di_enumT (hm : X.mg "enumerate" = none) (ha : DA hv X [e] fr) (hg : Gl X "enumerate" := by rfl) (hs : starEach [e] X.env = [(false, eval e X.env)] := by rfl) :
    DI hv X (.Tuple elts kk tpos) (.Call (.Name "enumerate" p) [e] [] pos) (dEnumT fr) := by
  refine pi_imp (pi_enumT hg hm ha hs) fun σ H R ⟨γ, hd, P, Q0, S, f, k⟩ => ?_
  refine ⟨γ, hd, P, _, S, f, fun ts q vs hd1 P1 H1 g1 r1 => ?_⟩
  unfold enumTK at q
  split at q
  · rename_i a
    cases r1 with
    | cons ra rr =>
      cases rr
      split at q
      · rename_i xs e1
        obtain ⟨p1, v1, P2, rfl, m1, h1, n1, q1, f1⟩ := Res.lstW g1.j ra e1
        exact ⟨p1, rfl, .inl ⟨v1, SqL.of h1, k _ _ q hd1 _ H1 _ (g1.more m1) ⟨wk_enum h1 n1 q1 f1⟩⟩⟩
      · rename_i xs e1
        obtain ⟨p1, v1, rfl, h1, q1⟩ := ra.tup e1
        exact ⟨p1, rfl, .inr ⟨v1, SqT.of h1, k _ _ q hd1 P1 H1 _ g1 ⟨wk_enumT h1 q1⟩⟩⟩
      · exact q.elim
  · exact q.elim
end
@[simp] theorem ev_enumT {γ : Gam} {fr : FA} {Q : List D → Bool → Prop} : dEnumT fr γ Q = fr γ (enumTK Q) := (rfl)
@[simp] theorem enumTK_t {Q : List D → Bool → Prop} {s : List D} : enumTK Q [.pl (.d (.tuple s))] = Q (enumD s) true := (rfl)
@[simp] theorem enumTK_l {Q : List D → Bool → Prop} {s : List D} : enumTK Q [.pl (.d (.list s))] = Q (enumD s) true := (rfl)
@[simp] theorem enumTK_fr {Q : List D → Bool → Prop} {s : List D} : enumTK Q [.fr s] = Q (enumD s) true := (rfl)
@[simp] theorem enumTK_lv {Q : List D → Bool → Prop} {s : List D} : enumTK Q [.lv s] = Q (enumD s) false := (rfl)
end DL

namespace DL
open PySem PySem.Spec PyProof.Rows L2 PySem.W

/-! ### tables -/
section
variable {α β : Type} {f : Nat → α} {g : Nat → α} {n k : Nat}
@[simp] theorem tab_len : (tab f n).length = n := by rw [tab_def]; simp
@[simp] theorem tab_0 : tab f 0 = [] := by rw [tab_def]; rfl
theorem tab_s : tab f (n + 1) = tab f n ++ [f n] := by rw [tab_def, tab_def, List.range_succ, List.map_append]; rfl
theorem tab_c : tab f (n + 1) = f 0 :: tab (fun i => f (i + 1)) n := by
  rw [tab_def, tab_def, List.range_succ_eq_map, List.map_cons, List.map_map]; rfl
theorem tab_map (h : α → β) : (tab f n).map h = tab (fun i => h (f i)) n := by rw [tab_def, tab_def, List.map_map]; rfl
theorem tab_ext (h : ∀ i < n, f i = g i) : tab f n = tab g n := by
  rw [tab_def, tab_def]
  exact List.map_congr_left fun i hi => h i (List.mem_range.mp hi)
theorem tab_get (h : k < n) : (tab f n)[k]? = some (f k) := by
  rw [tab_def, List.getElem?_map, List.getElem?_range h]; rfl
theorem tab_mem {x : α} (h : x ∈ tab f n) : ∃ i, i < n ∧ x = f i := by
  rw [tab_def] at h
  obtain ⟨i, hi, rfl⟩ := List.mem_map.mp h
  exact ⟨i, List.mem_range.mp hi, rfl⟩
theorem mem_tab (h : k < n) : f k ∈ tab f n := by
  rw [tab_def]
  exact List.mem_map.mpr ⟨k, List.mem_range.mpr h, rfl⟩
theorem tab_at {i : Int} (h0 : 0 ≤ i) (h : i < n) : atI (tab f n) i = some (f i.toNat) := by rw [atI_of h0, tab_get (by omega)]
theorem tab_of (xs : List α) (d : α) : xs = tab (fun i => xs.getD i d) xs.length := by
  rw [tab_def]
  refine List.ext_getElem? fun i => ?_
  rw [List.getElem?_map]
  by_cases h : i < xs.length
  · rw [List.getElem?_range h, List.getElem?_eq_getElem h]; simp [List.getD, h]
  · rw [List.getElem?_eq_none (by omega), List.getElem?_eq_none (by simp; omega)]; rfl
theorem rangeD_tab {lo : Int} : rangeD lo n = tab (fun i => dI (lo + (i : Int))) n := rfl
theorem stepD_tab {lo c : Int} : stepD lo c n = tab (fun i => dI (lo + (i : Int) * c)) n := rfl
theorem rangeD_map {lo : Int} : rangeD lo n = (tab (fun i => lo + (i : Int)) n).map dI := by rw [rangeD_tab, tab_map]
end
/-! ### typed lists: walks, comprehensions -/
section
variable {b : BT} {fg : List Nat} {body : FS} {γ : Gam} {K : DK} {fc : FT} {fe : FE} {α β : Type}
/-- a loop over typed items; the invariant is about those that are left -/
theorem forS (e : α → D) (xs : List α) (I : List α → Gam → Prop) (h0 : I xs γ)
    (hstep : ∀ x r γ, I (x :: r) γ → ∃ γ2, b (e x) γ = some γ2 ∧ ∀ K' : DK, (∀ γ', I r (wipeG γ' fg) → K'.nx γ') → (∀ γ', I r (wipeG γ' fg) → K'.ct γ') → (∀ γ', K.nx (wipeG γ' fg) → K'.bk γ') → (∀ t, K.rt t → K'.rt t) → body γ2 K')
    (hend : ∀ γ, I [] γ → K.nx γ) : forD b fg body (xs.map e) γ K := by
  refine forD_ok (fun ds γ => ∃ r, ds = r.map e ∧ I r γ) ?_ ?_ _ γ ⟨xs, rfl, h0⟩
  · rintro d ds γ ⟨r, e1, hI⟩
    cases r with
    | nil => cases e1
    | cons x r =>
      rw [List.map_cons] at e1
      cases e1
      obtain ⟨γ2, e2, q⟩ := hstep x r γ hI
      exact ⟨γ2, e2, fun K' n c r' t => q K' (fun γ' h' => n γ' ⟨r, rfl, h'⟩) (fun γ' h' => c γ' ⟨r, rfl, h'⟩) r' t⟩
  · rintro γ ⟨r, e1, hI⟩
    cases r with
    | nil => exact hend γ hI
    | cons x r => cases e1
def enFrom (e : α → D) : Nat → List α → List D
  | _, [] => []
  | k, x :: r => .tuple [.int (k : Nat), e x] :: enFrom e (k + 1) r
theorem enumD_from (e : α → D) : ∀ (xs : List α) (k : Nat), (xs.map e).mapIdx (fun (i : Nat) x => PyData.tuple [.int ((i + k : Nat) : Int), x]) = enFrom e k xs
  | [], _ => rfl
  | x :: r, k => by
    have h : ∀ i : Nat, i + 1 + k = i + (k + 1) := fun i => by omega
    rw [List.map_cons, List.mapIdx_cons, enFrom, ← enumD_from e r (k + 1), Nat.zero_add]
    simp only [h]
theorem enumD_en (e : α → D) (xs : List α) : enumD (xs.map e) = enFrom e 0 xs := by
  rw [← enumD_from e xs 0]
  rfl
/-- a loop over an enumeration -/
theorem forE (e : α → D) (xs : List α) (I : Nat → List α → Gam → Prop) (h0 : I 0 xs γ)
    (hstep : ∀ k x r γ, I k (x :: r) γ → ∃ γ2, b (.tuple [.int (k : Nat), e x]) γ = some γ2 ∧ ∀ K' : DK, (∀ γ', I (k + 1) r (wipeG γ' fg) → K'.nx γ') → (∀ γ', I (k + 1) r (wipeG γ' fg) → K'.ct γ') → (∀ γ', K.nx (wipeG γ' fg) → K'.bk γ') → (∀ t, K.rt t → K'.rt t) → body γ2 K')
    (hend : ∀ k γ, I k [] γ → K.nx γ) : forD b fg body (enumD (xs.map e)) γ K := by
  rw [enumD_en]
  refine forD_ok (fun ds γ => ∃ k r, ds = enFrom e k r ∧ I k r γ) ?_ ?_ _ γ ⟨0, xs, rfl, h0⟩
  · rintro d ds γ ⟨k, r, e1, hI⟩
    cases r with
    | nil => cases e1
    | cons x r =>
      rw [enFrom] at e1
      cases e1
      obtain ⟨γ2, e2, q⟩ := hstep k x r γ hI
      exact ⟨γ2, e2, fun K' n c r' t => q K' (fun γ' h' => n γ' ⟨k + 1, r, rfl, h'⟩) (fun γ' h' => c γ' ⟨k + 1, r, rfl, h'⟩) r' t⟩
  · rintro γ ⟨k, r, e1, hI⟩
    cases r with
    | nil => exact hend k γ hI
    | cons x r => cases e1
/-- a loop over neighbours: zip(xs, xs[1:]) -/
theorem forN (e : α → D) (xs : List α) (I : List α → Gam → Prop) (h0 : I xs γ)
    (hstep : ∀ x y r γ, I (x :: y :: r) γ → ∃ γ2, b (.tuple [e x, e y]) γ = some γ2 ∧ ∀ K' : DK, (∀ γ', I (y :: r) (wipeG γ' fg) → K'.nx γ') → (∀ γ', I (y :: r) (wipeG γ' fg) → K'.ct γ') → (∀ γ', K.nx (wipeG γ' fg) → K'.bk γ') → (∀ t, K.rt t → K'.rt t) → body γ2 K')
    (hend : ∀ r γ, r.length ≤ 1 → I r γ → K.nx γ) : forD b fg body (zipD (xs.map e) (xs.map e).tail) γ K := by
  refine forD_ok (fun ds γ => ∃ r : List α, ds = zipD (r.map e) (r.map e).tail ∧ I r γ) ?_ ?_ _ γ ⟨xs, rfl, h0⟩
  · rintro d ds γ ⟨r, e1, hI⟩
    match r, e1, hI with
    | [], e1, _ => cases e1
    | [_], e1, _ => cases e1
    | x :: y :: r, e1, hI =>
      cases e1
      obtain ⟨γ2, e2, q⟩ := hstep x y r γ hI
      exact ⟨γ2, e2, fun K' n c r' t => q K' (fun γ' h' => n γ' ⟨y :: r, rfl, h'⟩) (fun γ' h' => c γ' ⟨y :: r, rfl, h'⟩) r' t⟩
  · rintro γ ⟨r, e1, hI⟩
    match r, e1, hI with
    | [], _, hI => exact hend _ γ (by simp) hI
    | [_], _, hI => exact hend _ γ (by simp) hI
    | x :: y :: r, e1, hI => cases e1
theorem lcA (e : α → D) (p : α → Bool) (g : α → D) {k : List D → Prop} : ∀ (xs : List α) (acc : List D), acc.length + xs.length ≤ sizeLine →
    (∀ x ∈ xs, ∀ (k1 : D → Prop) (k0 : Prop), (p x = true → k1 (g x)) → (p x = false → k0) → onS (b (e x) γ) fun γ2 => fc γ2 fun c => if c = true then fe γ2 fun t => onS t.plain k1 else k0) →
    k (acc ++ (xs.filter p).map g) → lcD b fc fe γ (xs.map e) acc k
  | [], acc, _, _, hk => by
    simp only [List.filter_nil, List.map_nil, List.append_nil] at hk
    exact hk
  | x :: r, acc, hl, h, hk => by
    rw [List.length_cons] at hl
    refine h x (List.mem_cons_self ..) (fun x => acc.length < sizeLine ∧ lcD b fc fe γ (r.map e) (acc ++ [x]) k) _ (fun hp => ⟨by omega, lcA e p g r _ (by rw [List.length_append, List.length_singleton]; omega) (fun d' hd' => h d' (List.mem_cons_of_mem _ hd')) ?_⟩) fun hp => lcA e p g r acc (by omega) (fun d' hd' => h d' (List.mem_cons_of_mem _ hd')) ?_
    · rw [List.filter_cons_of_pos hp, List.map_cons] at hk
      rw [List.append_assoc]
      exact hk
    · rw [List.filter_cons_of_neg (by rw [hp]; decide)] at hk
      exact hk
/-- [.. for x in xs]: each gives g x -/
theorem lcM (e g : α → D) (xs : List α) {k : List D → Prop} (hl : xs.length ≤ 100000) (h : ∀ x ∈ xs, ∀ k1 : D → Prop, k1 (g x) → onS (b (e x) γ) fun γ2 => fe γ2 fun t => onS t.plain k1)
    (hk : k (xs.map g)) : lcD b dYes fe γ (xs.map e) [] k :=
  lcA e (fun _ => true) g xs [] (by simpa using big _ hl) (fun x hx k1 k0 h1 _ => h x hx k1 (h1 rfl)) (by
    have e1 : xs.filter (fun _ => true) = xs := List.filter_eq_self.mpr fun _ _ => rfl
    rw [e1]; exact hk)
/-- over a table -/
theorem lcT (e g : Nat → D) {n : Nat} {k : List D → Prop} (hl : n ≤ 100000) (h : ∀ i : Nat, i < n → ∀ k1 : D → Prop, k1 (g i) → onS (b (e i) γ) fun γ2 => fe γ2 fun t => onS t.plain k1)
    (hk : k (tab g n)) : lcD b dYes fe γ (tab e n) [] k := by
  rw [tab_def]
  exact lcM e g (List.range n) (by rw [List.length_range]; exact hl) (fun i hi => h i (List.mem_range.mp hi)) (by rw [← tab_def]; exact hk)
/-- [.. for x in xs if p x]: each that is chosen gives g x -/
theorem lcF (e : α → D) (p : α → Bool) (g : α → D) (xs : List α) {k : List D → Prop} (hl : xs.length ≤ 100000)
    (h : ∀ x ∈ xs, ∀ (k1 : D → Prop) (k0 : Prop), (p x = true → k1 (g x)) → (p x = false → k0) → onS (b (e x) γ) fun γ2 => fc γ2 fun c => if c = true then fe γ2 fun t => onS t.plain k1 else k0)
    (hk : k ((xs.filter p).map g)) : lcD b fc fe γ (xs.map e) [] k := lcA e p g xs [] (by simpa using big _ hl) h hk
/-- over a range -/
theorem lcMr (g : Nat → D) {lo : Int} {n : Nat} {k : List D → Prop} (hl : n ≤ 100000) (h : ∀ i : Nat, i < n → ∀ k1 : D → Prop, k1 (g i) → onS (b (.int (lo + (i : Int))) γ) fun γ2 => fe γ2 fun t => onS t.plain k1)
    (hk : k (tab g n)) : lcD b dYes fe γ (rangeD lo n) [] k := by
  rw [rangeD_def]
  exact lcM (fun (i : Nat) => .int (lo + (i : Int))) g (List.range n) (by rw [List.length_range]; exact hl) (fun i hi => h i (List.mem_range.mp hi)) (by rw [← tab_def]; exact hk)
theorem lcFr (p : Nat → Bool) (g : Nat → D) {lo : Int} {n : Nat} {k : List D → Prop} (hl : n ≤ 100000)
    (h : ∀ i : Nat, i < n → ∀ (k1 : D → Prop) (k0 : Prop), (p i = true → k1 (g i)) → (p i = false → k0) → onS (b (.int (lo + (i : Int))) γ) fun γ2 => fc γ2 fun c => if c = true then fe γ2 fun t => onS t.plain k1 else k0)
    (hk : k (((List.range n).filter p).map g)) : lcD b fc fe γ (rangeD lo n) [] k := by
  rw [rangeD_def]
  exact lcF (fun (i : Nat) => .int (lo + (i : Int))) p g (List.range n) (by rw [List.length_range]; exact hl) (fun i hi => h i (List.mem_range.mp hi)) hk
/-- over an enumeration -/
def enL {γ' : Type} (f : Nat → α → γ') : Nat → List α → List γ'
  | _, [] => []
  | k, x :: r => f k x :: enL f (k + 1) r
def enLf {γ' : Type} (p : Nat → α → Bool) (f : Nat → α → γ') : Nat → List α → List γ'
  | _, [] => []
  | k, x :: r => if p k x = true then f k x :: enLf p f (k + 1) r else enLf p f (k + 1) r
theorem lcAe (e : α → D) (p : Nat → α → Bool) (g : Nat → α → D) {k : List D → Prop} : ∀ (xs : List α) (i : Nat) (acc : List D), acc.length + xs.length ≤ sizeLine →
    (∀ (i : Nat) x, x ∈ xs → ∀ (k1 : D → Prop) (k0 : Prop), (p i x = true → k1 (g i x)) → (p i x = false → k0) → onS (b (.tuple [.int (i : Nat), e x]) γ) fun γ2 => fc γ2 fun c => if c = true then fe γ2 fun t => onS t.plain k1 else k0) →
    k (acc ++ enLf p g i xs) → lcD b fc fe γ (enFrom e i xs) acc k
  | [], i, acc, _, _, hk => by
    rw [enLf, List.append_nil] at hk
    exact hk
  | x :: r, i, acc, hl, h, hk => by
    rw [List.length_cons] at hl
    refine h i x (List.mem_cons_self ..) (fun x => acc.length < sizeLine ∧ lcD b fc fe γ (enFrom e (i + 1) r) (acc ++ [x]) k) _ (fun hp => ⟨by omega, lcAe e p g r (i + 1) _ (by rw [List.length_append, List.length_singleton]; omega) (fun j d' hd' => h j d' (List.mem_cons_of_mem _ hd')) ?_⟩) fun hp => lcAe e p g r (i + 1) acc (by omega) (fun j d' hd' => h j d' (List.mem_cons_of_mem _ hd')) ?_
    · rw [enLf, if_pos hp] at hk
      rw [List.append_assoc]
      exact hk
    · rw [enLf, if_neg (by rw [hp]; decide)] at hk
      exact hk
theorem enLf_all {γ' : Type} (f : Nat → α → γ') : ∀ (xs : List α) (i : Nat), enLf (fun _ _ => true) f i xs = enL f i xs
  | [], _ => rfl
  | x :: r, i => by rw [enLf, if_pos rfl, enLf_all f r, enL]
theorem lcFe (e : α → D) (p : Nat → α → Bool) (g : Nat → α → D) (xs : List α) {k : List D → Prop} (hl : xs.length ≤ 100000)
    (h : ∀ (i : Nat) x, x ∈ xs → ∀ (k1 : D → Prop) (k0 : Prop), (p i x = true → k1 (g i x)) → (p i x = false → k0) → onS (b (.tuple [.int (i : Nat), e x]) γ) fun γ2 => fc γ2 fun c => if c = true then fe γ2 fun t => onS t.plain k1 else k0)
    (hk : k (enLf p g 0 xs)) : lcD b fc fe γ (enumD (xs.map e)) [] k := by
  rw [enumD_en]
  exact lcAe e p g xs 0 [] (by simpa using big _ hl) h hk
theorem lcMe (e : α → D) (g : Nat → α → D) (xs : List α) {k : List D → Prop} (hl : xs.length ≤ 100000)
    (h : ∀ (i : Nat) x, x ∈ xs → ∀ k1 : D → Prop, k1 (g i x) → onS (b (.tuple [.int (i : Nat), e x]) γ) fun γ2 => fe γ2 fun t => onS t.plain k1)
    (hk : k (enL g 0 xs)) : lcD b dYes fe γ (enumD (xs.map e)) [] k :=
  lcFe e (fun _ _ => true) g xs hl (fun i x hx k1 k0 h1 _ => h i x hx k1 (h1 rfl)) (by rw [enLf_all]; exact hk)
end
section
variable {α β : Type} {e : α → D} {f : β → D}
theorem zipD_map {xs : List α} {ys : List β} : zipD (xs.map e) (ys.map f) = (xs.zip ys).map fun q => dT [e q.1, f q.2] := by
  unfold zipD
  induction xs generalizing ys with
  | nil => simp
  | cons x r ih =>
    cases ys with
    | nil => simp
    | cons y s => simp [ih]
theorem zipD_same {xs : List α} {g : α → D} : zipD (xs.map e) (xs.map g) = xs.map fun x => dT [e x, g x] := by
  unfold zipD
  induction xs with
  | nil => rfl
  | cons x r ih => simp [ih]
theorem enL_range {γ' : Type} (g : Nat → α) (h : Nat → α → γ') (n k : Nat) : enL h k ((List.range' k n).map g) = (List.range' k n).map fun i => h i (g i) := by
  induction n generalizing k with
  | zero => rfl
  | succ n ih => simp [List.range'_succ, enL, ih]
theorem enL_range0 {γ' : Type} (g : Nat → α) (h : Nat → α → γ') (n : Nat) : enL h 0 ((List.range n).map g) = (List.range n).map fun i => h i (g i) := by
  rw [List.range_eq_range']
  exact enL_range g h n 0
theorem zipD_tab {f g : Nat → D} {n : Nat} : zipD (tab f n) (tab g n) = tab (fun i => dT [f i, g i]) n := by
  rw [tab_def, tab_def, tab_def, zipD_same]
theorem enumD_tab {f : Nat → D} {n : Nat} : enumD (tab f n) = tab (fun i => dT [dI (i : Nat), f i]) n := by
  have h := enumD_en f (List.range n)
  rw [tab_def, tab_def, h]
  clear h
  have key : ∀ k, enFrom f k (List.range' k n) = (List.range' k n).map fun i => dT [dI (i : Nat), f i] := by
    induction n with
    | zero => intro k; rfl
    | succ n ih => intro k; rw [List.range'_succ, enFrom, ih, List.map_cons]
  rw [List.range_eq_range']
  exact key 0
theorem sIx_some {n : Nat} {d : Nat} {i : Int} (h0 : 0 ≤ i) : HT.sIx n d (some i) = min i.toNat n := by
  show (if i < 0 then (i + (n : Int)).toNat else min i.toNat n) = min i.toNat n
  rw [if_neg (by omega)]
theorem cut_from {xs : List α} {i : Int} (h : 0 ≤ i) : cutG xs (some i) none = xs.drop i.toNat := by
  unfold cutG
  rw [sIx_some h, HT.sIx_none]
  by_cases hi : i.toNat ≤ xs.length
  · rw [Nat.min_eq_left hi, List.take_of_length_le (by rw [List.length_drop]; omega)]
  · rw [Nat.min_eq_right (by omega), List.drop_eq_nil_of_le (Nat.le_refl _), List.drop_eq_nil_of_le (by omega), List.take_nil]
theorem cut_to {xs : List α} {i : Int} (h : 0 ≤ i) : cutG xs none (some i) = xs.take i.toNat := by
  unfold cutG
  rw [sIx_some h, HT.sIx_none, List.drop_zero, Nat.sub_zero]
  by_cases hi : i.toNat ≤ xs.length
  · rw [Nat.min_eq_left hi]
  · rw [Nat.min_eq_right (by omega), List.take_of_length_le (Nat.le_refl _), List.take_of_length_le (by omega)]
theorem cut_mid {xs : List α} {i j : Int} (h : 0 ≤ i) (hj : i ≤ j) : cutG xs (some i) (some j) = (xs.drop i.toNat).take (j.toNat - i.toNat) := by
  unfold cutG
  rw [sIx_some h, sIx_some (Int.le_trans h hj)]
  by_cases h1 : i.toNat ≤ xs.length
  · rw [Nat.min_eq_left h1]
    by_cases h2 : j.toNat ≤ xs.length
    · rw [Nat.min_eq_left h2]
    · rw [Nat.min_eq_right (by omega), List.take_of_length_le (by rw [List.length_drop]; omega), List.take_of_length_le (by rw [List.length_drop]; omega)]
  · rw [show min i.toNat xs.length = xs.length by omega, List.drop_eq_nil_of_le (Nat.le_refl _), List.drop_eq_nil_of_le (by omega), List.take_nil, List.take_nil]
theorem cut_all {xs : List α} : cutG xs none none = xs := by
  unfold cutG
  rw [HT.sIx_none, HT.sIx_none]
  simp
@[simp] theorem cut_f1 {xs : List α} : cutG xs (some 1) none = xs.drop 1 := cut_from (by decide)
@[simp] theorem cut_t1 {xs : List α} : cutG xs none (some 1) = xs.take 1 := cut_to (by decide)
@[simp] theorem cut_t2 {xs : List α} : cutG xs none (some 2) = xs.take 2 := cut_to (by decide)
end
section
variable {x : TV} {ds : List D} {lo hi : Option Int}
theorem mul_rep {d : D} {i : Int} (h0 : 0 ≤ i) (h : i ≤ 100000) : mulT (.fr [d]) (.pl (.d (.int i))) = some (.fr (tab (fun _ => d) i.toNat)) := by
  rw [mul_li rfl h0 (by omega) (by simp; omega)]
  congr 2
  generalize i.toNat = n
  rw [tab_def, List.map_const', List.length_range]
  induction n with
  | zero => rfl
  | succ n ih => rw [List.replicate_succ, List.flatten_cons, ih]; rfl
theorem slc_l (h : x.data = some (.list ds)) : slcT x lo hi = some (.fr (cutG ds lo hi)) := by
  unfold slcT
  simp only [h]
@[simp] theorem slc_t : slcT (.pl (.d (.tuple ds))) lo hi = some (.pl (.d (.tuple (cutG ds lo hi)))) := (rfl)
@[simp] theorem slc_pl : slcT (.pl (.d (.list ds))) lo hi = some (.fr (cutG ds lo hi)) := (rfl)
@[simp] theorem slc_lv : slcT (.lv ds) lo hi = some (.fr (cutG ds lo hi)) := (rfl)
@[simp] theorem slc_fr : slcT (.fr ds) lo hi = some (.fr (cutG ds lo hi)) := (rfl)
end
end DL

namespace DL
open PySem PySem.Spec PyProof.Rows L2 PySem.W

/-! ### defs that many laws share -/
section
def csp_int : Spec := sp1 fun a Q => ∃ i, a = vI i ∧ Q (vB true)
def cm_int : FS := dRet (dAndV (dIsa PyData.isInt (dVar 0)) (dNotV (dIsa PyData.isBool (dVar 0))))
theorem cmeets_int : Meets 1 cm_int csp_int := meets1 fun a Q ⟨i, ha, q⟩ => by
  subst ha
  simp [cm_int, gam0, thenK_ap, q]
def csp_within : Spec := sp3 fun a b c Q => ∃ i l h, a = vI i ∧ b = vI l ∧ c = vI h ∧ Q (vB (decide (l ≤ i) && decide (i ≤ h)))
def cm_within : FS := dRet (dAndV (dCall csp_int (dCons (dVar 0) dNil)) (dChain (ltT le_) (ltT le_) (dVar 1) (dVar 0) (dVar 2)))
theorem cmeets_within : Meets 3 cm_within csp_within := meets3 fun a b c Q ⟨i, l, h, ha, hb, hc, q⟩ => by
  subst ha hb hc
  simp [cm_within, gam0, thenK_ap, csp_int]
  grind
def csp_tupof : Spec := sp2 fun a b Q => ∃ ds n, a = vT ds ∧ b = vI n ∧ Q (vB (decide ((ds.length : Int) = n)))
def cm_tupof : FS := dRet (dAndV (dIsa PyData.isTuple (dVar 0)) (dOp eqT (dBlt gLen (dCons (dVar 0) dNil)) (dVar 1)))
theorem cmeets_tupof : Meets 2 cm_tupof csp_tupof := meets2 fun a b Q ⟨ds, n, ha, hb, q⟩ => by
  subst ha hb
  simp [cm_tupof, gam0, thenK_ap, q]
/-- things[_law_draw(hand, len(things))] -/
def csp_some : Spec := sp2 fun a b Q => a = .hand ∧ ∃ ds, (b = vL ds ∨ b = vT ds) ∧ 0 < ds.length ∧ ds.length < 1000000 ∧ ∀ d ∈ ds, Q (.d d)
def cm_some : FS := dRet (dOp idxT (dVar 1) (dCall sp_draw (dCons (dVar 0) (dCons (dBlt gLen (dCons (dVar 1) dNil)) dNil))))
theorem cmeets_some : Meets 2 cm_some csp_some := meets2 fun a b Q ⟨ha, ds, hb, h0, h1, q⟩ => by
  subst ha
  rcases hb with rfl | rfl
  · simp [cm_some, gam0, thenK_ap, sp_draw]
    refine ⟨h0, by omega, fun r r0 r1 => ?_⟩
    rw [atI_of r0, List.getElem?_eq_getElem (by omega)]
    simp
    exact q _ (List.getElem_mem _)
  · simp [cm_some, gam0, thenK_ap, sp_draw]
    refine ⟨h0, by omega, fun r r0 r1 => ?_⟩
    rw [atI_of r0, List.getElem?_eq_getElem (by omega)]
    simp
    exact q _ (List.getElem_mem _)
@[simp] theorem ev_appW {γ : Gam} {K : DK} {i : Nat} {f : FW} : dAppW i f γ K = onS (γ[i]?) fun s => match s with | .ol _ => f γ fun t γ' => onS t.plain fun d => onS (γ'[i]?) fun s' => (match s' with | .ol ds => ds.length < sizeLine ∧ K.nx (γ'.set i (.ol (ds ++ [d]))) | _ => False) | _ => False := by
  unfold dAppW onS
  cases γ[i]? with
  | none => rfl
  | some s =>
    cases s with
    | ol ds =>
      simp only
      congr 1
      funext t γ'
      cases t.plain with
      | none => rfl
      | some d =>
        simp only
        cases γ'[i]? with
        | none => rfl
        | some s' => cases s' <;> rfl
    | _ => rfl
@[simp] theorem ev_asgW {γ : Gam} {K : DK} {i : Nat} {f : FW} : dAsgW i f γ K = f γ fun t γ' => onS (putT i t γ') K.nx := (rfl)
@[simp] theorem ev_expW {γ : Gam} {K : DK} {f : FW} : dExpW f γ K = f γ fun _ γ' => K.nx γ' := (rfl)
@[simp] theorem ev_unpW {γ : Gam} {K : DK} {f : FW} {b : BT} : dUnpW f b γ K = f γ fun t γ' => onS t.plain fun d => onS (b d γ') K.nx := (rfl)
@[simp] theorem ev_pop0 {γ : Gam} {i : Nat} {Q : TV → Gam → Prop} : dPop0 i γ Q = onS (γ[i]?) fun s => match s with | .ol ds => onS ds.getLast? fun d => Q (.pl (.d d)) (γ.set i (.ol ds.dropLast)) | _ => False := by
  unfold dPop0 onS
  cases γ[i]? with
  | none => rfl
  | some s => cases s <;> rfl
@[simp] theorem ev_pop {γ : Gam} {i : Nat} {fe : FE} {Q : TV → Gam → Prop} : dPop i fe γ Q = onS (γ[i]?) fun s => match s with | .ol ds => fe γ (toI fun j => (-(2 ^ 63) ≤ j ∧ j < 2 ^ 63) ∧ onS (ixN ds.length j) fun n => onS (ds[n]?) fun d => Q (.pl (.d d)) (γ.set i (.ol (ds.eraseIdx n)))) | _ => False := by
  unfold dPop onS
  cases γ[i]? with
  | none => rfl
  | some s => cases s <;> rfl
theorem ixN_of {n : Nat} {j : Int} (h0 : 0 ≤ j) (h : j < n) : ixN n j = some j.toNat := by
  unfold ixN
  rw [if_pos h0, if_pos h]
theorem erase_perm {α : Type} : ∀ {l : List α} {i : Nat} (h : i < l.length), (l[i] :: l.eraseIdx i).Perm l
  | [], i, h => by cases h
  | x :: r, 0, _ => List.Perm.refl _
  | x :: r, i + 1, h => by
    have h' : i < r.length := by simpa using h
    have := erase_perm h'
    show ((r[i] :: x :: r.eraseIdx i)).Perm (x :: r)
    exact (List.Perm.swap ..).trans (.cons x this)
/-- a drawn order -/
def csp_shuffled : Spec := sp2 fun a b Q => a = .hand ∧ ∃ ds, b = vL ds ∧ ds.length ≤ 1000 ∧ ∀ ds', ds'.Perm ds → Q (vL ds')
def cm_shuffled : FS := (dSeq2 (dPar [2, 3] (dCons (dBlt gList (dCons (dVar 1) dNil)) (dCons (dLst dNil) dNil)))
  (dSeq2 (dWeak [] (dWh (dB (dOp (ltT gt_) (dBlt gLen (dCons (dVar 2) dNil)) (dCon (.int 0)))) [] (dAppW 3 (dPop 2 (dCall sp_draw (dCons (dVar 0) (dCons (dBlt gLen (dCons (dVar 2) dNil)) dNil)))))))
  (dRetV 3)))
theorem cmeets_shuffled : Meets 4 cm_shuffled csp_shuffled := meets2 fun a b Q ⟨ha, ds, hb, hz, q⟩ => by
  subst ha hb
  simp [cm_shuffled, gam0, thenK_ap]
  refine dWh_ok (fun n γ => ∃ pool found : List D, γ = [.pl .hand, .pl (vL ds), .ol pool, .ol found] ∧ (found ++ pool).Perm ds ∧ n = pool.length) ds.length ⟨ds, [], rfl, List.Perm.refl _, rfl⟩ ?_
  rintro n γ ⟨pool, found, rfl, hp, rfl⟩ K' nx ct bk rt
  have hl : found.length + pool.length = ds.length := by rw [← List.length_append]; exact hp.length_eq
  simp
  by_cases h0 : 0 < pool.length
  · have h0' : 0 < (pool.length : Int) := by omega
    simp [h0, sp_draw]
    refine ⟨by omega, fun r r0 r1 => ⟨⟨by omega, by omega⟩, ?_⟩⟩
    rw [ixN_of r0 r1]
    have hi : r.toNat < pool.length := by omega
    simp [List.getElem?_eq_getElem hi]
    refine ⟨Nat.lt_of_le_of_lt (by omega) szl, ?_⟩
    refine nx (pool.eraseIdx r.toNat).length _ (by rw [List.length_eraseIdx, if_pos hi]; omega) ⟨_, _, rfl, ?_, rfl⟩
    rw [List.append_assoc]
    exact List.Perm.trans (List.Perm.append_left found (erase_perm hi)) hp
  · have e : pool = [] := List.eq_nil_of_length_eq_zero (by omega)
    subst e
    simp [thenK_ap]
    rw [List.append_nil] at hp
    exact q found hp
theorem perm_map_inv {α : Type} {e : α → D} {ds : List D} {xs : List α} (h : ds.Perm (xs.map e)) : ∃ ys : List α, ds = ys.map e ∧ ys.Perm xs := by
  generalize hx : xs.map e = es at h
  induction h generalizing xs with
  | nil =>
    cases xs with
    | nil => exact ⟨[], rfl, .nil⟩
    | cons _ _ => cases hx
  | cons d _ ih =>
    cases xs with
    | nil => cases hx
    | cons x r =>
      rw [List.map_cons] at hx
      cases hx
      obtain ⟨ys, rfl, h⟩ := ih rfl
      exact ⟨x :: ys, rfl, .cons _ h⟩
  | swap a b l =>
    match xs, hx with
    | x :: y :: r, hx =>
      cases hx
      exact ⟨y :: x :: r, rfl, .swap ..⟩
  | trans _ _ ih1 ih2 =>
    obtain ⟨ys, e2, h2⟩ := ih2 hx
    obtain ⟨zs, e1, h1⟩ := ih1 e2.symm
    exact ⟨zs, e1, h1.trans h2⟩
end
end DL

namespace DL
open PySem PySem.Spec PyProof.Rows L2 PySem.W
/-! ### sum, of a tuple too -/
def gSumT : G1 := fun ts Q => match ts with
  | [a] => (match a.data with
    | some (.list xs) => onS (intsOf xs) fun bs => Q (iv bs.sum)
    | some (.tuple xs) => onS (intsOf xs) fun bs => Q (iv bs.sum)
    | _ => False)
  | _ => False
section
variable {X : Cx} {hv : Hv}
theorem cd_sumT (hc : X.calm = true) : CallR X (.builtin "sum") (rDC ⟨X.K, hv⟩ gSumT) := by
  intro pins s σ H xs us Q I r ⟨hd, P, H0, ts, Q0, j, rs, q, k⟩
  unfold gSumT at q
  split at q
  · obtain ⟨v, rfl, r1⟩ := ress1 rs
    split at q
    · rename_i i e1
      obtain ⟨bs, e2, q9⟩ := of_onS q
      have e3 := intsOf_ok e2
      subst e3
      obtain ⟨p, vs, rfl, h1, q1⟩ := r1.lst e1
      rw [Reps.intsOf q1] at h1
      exact cr_sum hc pins s σ H _ us Q I r ⟨_, bs, rfl, SqL.of h1, k _ q9 _ P H j.refl (Rep.int _)⟩
    · rename_i i e1
      obtain ⟨bs, e2, q9⟩ := of_onS q
      have e3 := intsOf_ok e2
      subst e3
      obtain ⟨p, vs, rfl, h1, q1⟩ := r1.tup e1
      rw [Reps.intsOf q1] at h1
      obtain ⟨its, rv, hl, _⟩ := I.tuple (SqT.of h1)
      rw [Vals.ref1 r]
      obtain ⟨ys, ey⟩ := rv.ints.allInts.items
      have hn : numsOf (intItems ys).toList = bs := by rw [← ey]; exact rv.ints.numsOf
      rw [nums_intItems] at hn
      rw [ey] at hl
      refine ktm_sumG (I.ok.hd hc) hl fun h' tk t' hk => ?_
      rw [preSum_eq, List.take_of_length_le (by simp), hn]
      exact ⟨.int _, H, I.kept hk, ⟨_, rfl⟩, k _ q9 _ P H j.refl (Rep.int _)⟩
    · exact q.elim
  · exact q.elim
end
section
variable {x : TV} {Q : TV → Prop} {bs : List Int}
theorem gSumT_of {ds : List D} {bs : List Int} (hx : x.data = some (.list ds) ∨ x.data = some (.tuple ds)) (e : ds = bs.map .int) (h : Q (.pl (.d (.int bs.sum)))) : gSumT [x] Q := by
  unfold gSumT
  rcases hx with hx | hx
  · simp only [hx, e, intsOf_map]
    exact h
  · simp only [hx, e, intsOf_map]
    exact h
@[simp] theorem gSumT_l : gSumT [.pl (.d (.list (bs.map dI)))] Q = Q (.pl (.d (.int bs.sum))) := by
  unfold gSumT
  simp only [data_pl, intsOf_map]
  rfl
@[simp] theorem gSumT_t : gSumT [.pl (.d (.tuple (bs.map dI)))] Q = Q (.pl (.d (.int bs.sum))) := by
  unfold gSumT
  simp only [data_pl, intsOf_map]
  rfl
@[simp] theorem gSumT_fr : gSumT [.fr (bs.map dI)] Q = Q (.pl (.d (.int bs.sum))) := by
  unfold gSumT
  simp only [data_fr, intsOf_map]
  rfl
@[simp] theorem gSumT_lv : gSumT [.lv (bs.map dI)] Q = Q (.pl (.d (.int bs.sum))) := by
  unfold gSumT
  simp only [data_lv, intsOf_map]
  rfl
end
end DL

namespace DL
open PySem PySem.Spec PyProof.Rows L2 PySem.W
/-! ### x[::-1] -/
section
variable {prog : Program} {w : World} {A : Around} {E : Value → Shared → Prop} {s : Shared}
theorem slicePart_m1 {v : Value} {o : Option Int} {Q : Option Int → Shared → Prop} (p : IsPart v o) (h : Q o s) : wpAny (model prog w) A (Builtin.Slice.slicePartIndex v) Q E s := by
  cases p with
  | none => exact slicePart_none h
  | int i t => exact slicePart_int h
theorem sliceApplied_rev {sl : Addr} {vl vu vs : Value} {n : Nat} {Q : Int × Int × Nat → Shared → Prop} (hs : s.heap.IsSliceOf sl vl vu vs) (pl : IsPart vl none) (pu : IsPart vu none) (ps : IsPart vs (some (-1)))
    (h : Q ((n : Int) - 1, -1, n) s) : wpAny (model prog w) A (Builtin.Slice.sliceApplied (.ref sl) (pure (n : Int))) Q E s := by
  obtain ⟨os, hos, hcs, hds⟩ := id hs
  unfold Builtin.Slice.sliceApplied Builtin.Slice.sliceFields
  refine wpAny_bind (wpAny_bind (wpAny_field hos hds (x := vl) rfl (wpAny_bind (wpAny_field hos hds (x := vu) rfl (wpAny_bind (wpAny_field hos hds (x := vs) rfl (wpAny_pure ?_)))))))
  refine wpAny_bind (slicePart_m1 ps ?_)
  show wpAny _ _ (if ((-1 : Int) == 0) = true then _ else _) _ _ s
  rw [if_neg (by decide)]
  refine wpAny_bind (slicePart_m1 pl (wpAny_bind (slicePart_m1 pu (wpAny_bind (wpAny_pure ?_)))))
  have e1 : Builtin.Slice.slicePlaces ((n : Int) - 1) (-1) (-1) = n := by
    unfold Builtin.Slice.slicePlaces
    rw [if_neg (by decide)]
    by_cases hn : n = 0
    · subst hn; decide
    · rw [if_pos (by omega)]
      have : ((n : Int) - 1 - -1 - 1) / (- -1) + 1 = n := by
        rw [show (- -1 : Int) = 1 from rfl, Int.ediv_one]
        omega
      rw [this]
      exact Int.toNat_natCast n
  show wpAny _ _ (pure ((n : Int) - 1, (-1 : Int), Builtin.Slice.slicePlaces ((n : Int) - 1) (-1) (-1))) _ _ s
  rw [e1]
  exact wpAny_pure h
theorem pick_rev (xs : Array Value) : ((List.range xs.size).filterMap fun (m : Nat) => xs[(((xs.size : Nat) : Int) - 1 + (m : Int) * -1).toNat]?).toArray = xs.toList.reverse.toArray := by
  have e : (fun (m : Nat) => xs[(((xs.size : Nat) : Int) - 1 + (m : Int) * -1).toNat]?) = (fun i => xs[i]?) ∘ fun m => xs.size - 1 - m := by
    funext m
    have : (((xs.size : Nat) : Int) - 1 + (m : Int) * -1).toNat = xs.size - 1 - m := by omega
    show xs[_]? = xs[_]?
    rw [this]
  rw [e, ← List.filterMap_map, krv_range, List.filterMap_reverse, krv_all]
theorem getItem_tuple_rev {t sl : Addr} {items : Array Value} {vl vu vs : Value} {Q : Value → Shared → Prop} (ht : IsTup s.heap t items) (hs : s.heap.IsSliceOf sl vl vu vs) (pl : IsPart vl none) (pu : IsPart vu none) (ps : IsPart vs (some (-1)))
    (h : Q (.ref s.heap.objs.size) { s with heap := s.heap.push { cls := .type "tuple", data := .seq items.toList.reverse.toArray } })
    (hsz : items.size ≤ sizeLine) : wpAny (model prog w) A (getItem (.ref t) (.ref sl)) Q E s := by
  have htake : sizeOk (.seq items.toList.reverse.toArray) := by
    show items.toList.reverse.toArray.size ≤ sizeLine
    rw [List.size_toArray, List.length_reverse, Array.length_toList]
    exact hsz
  obtain ⟨os, hos, hcs, hds⟩ := id hs
  have hTs : s.TypeIs (.ref sl) "slice" := ⟨os, hos, hcs⟩
  unfold getItem
  try with_reducible refine wpAny_holding ?_
  first | refine wpAny_bind (wpAny_pure ?_) | skip
  refine wpAny_bind (wpAny_sequenceKey ht.typeIs (by decide) ?_)
  refine wpAny_bind (wpAny_callSpecial?_slot (name := Str.ofString "__getitem__") ht.typeIs PyProof.Rows.slot_tuple_getitem
    (wpAny_call_entry PyProof.Rows.slot_tuple_getitem ht.typeIs entry_tuple_getitem ?_ (args_tuple_getitem _ _)))
  show wpAny _ _ (Builtin.Tuple.tupleItemsOf (.ref t) >>= _) _ _ s
  refine wpAny_bind (tupleItemsOf_ ht ?_)
  refine wpAny_bind (wpAny_typeOf hTs ?_)
  rw [if_pos (by decide)]
  refine wpAny_bind (sliceApplied_rev hs pl pu ps ?_)
  have hno : ¬ ((((items.size : Nat) : Int) - 1 == 0 && (-1 : Int) == 1 && items.size == items.size) = true) := by
    intro q
    rw [Bool.and_eq_true, Bool.and_eq_true] at q
    exact absurd q.1.2 (by decide)
  show wpAny _ _ (if (((items.size : Nat) : Int) - 1 == 0 && (-1 : Int) == 1 && items.size == items.size) = true then _ else _) _ _ s
  rw [if_neg hno, pick_rev]
  first
    | exact wpAny_bind (m := Builtin.Tuple.tupleExact _) (wpAny_newObj_type (wpAny_pure ⟨_, rfl, wpAny_pure h⟩) htake)
    | exact wpAny_bind (m := Builtin.Tuple.tupleExact _) (wpAny_newObj_type (wpAny_bind (wpAny_pure (wpAny_pure ⟨_, rfl, wpAny_pure h⟩))) htake)
    | exact wpAny_bind (wpAny_bind (m := Builtin.Tuple.tupleExact _) (wpAny_newObj_type (wpAny_pure (wpAny_pure ⟨_, rfl, wpAny_pure h⟩)) htake))
    | exact wpAny_bind (wpAny_bind (m := Builtin.Tuple.tupleExact _) (wpAny_newObj_type (wpAny_pure ⟨_, rfl, wpAny_pure h⟩) htake))
end
def revS (z : Str) : Str := ⟨z.cps.toList.reverse.toArray⟩
def revT (x : TV) : Option TV := match x.data with
  | some (.list xs) => some (.fr xs.reverse)
  | some (.tuple xs) => some (pd (.tuple xs.reverse))
  | some (.str z) => if z.length ≤ sizeLine then some (pd (.str (revS z))) else none
  | _ => none
def dRev (fa : FE) : FE := fun γ Q => fa γ fun x => onS (revT x) Q
@[simp] theorem ev_rev {fa : FE} {γ : Gam} {Q : TV → Prop} : dRev fa γ Q = fa γ fun x => onS (revT x) Q := (rfl)
def rRev (c : Cfg) : V → Hp → VK → Prop := fun x H Q => ∃ hd P H0 tx t, J c hd P H ∧ Res c hd P H0 H x tx ∧ revT tx = some t ∧ ∀ v hd' P' H', Grow c hd P H hd' P' H' → Res c hd' P' H H' v t → Q v H'
def tRev (c : Cfg) (te : TE) : TE := fun σ H Q => te σ H fun x H1 => rRev c x H1 Q
section
variable {X : Cx} {hv : Hv} {e : Expr} {te : TE} {k : Nat} {p1 p2 p3 pos : Pos} {fa : FE}
theorem pe_revT (he : PE X e te) : PE X (.Subscript e (.Slice none none (some (.UnaryOp .USub (.Constant (.int 1) k p1) p2)) p3) pos) (tRev ⟨X.K, hv⟩ te) := by
  refine ⟨fun pins s σ H Q I h => ?_⟩
  refine Subscript_ (thn (he.run pins s σ H _ I h) fun v s1 ⟨x, H1, I1, r1, q1⟩ => ?_)
  obtain ⟨hd, P, H0, tx, t, j, rx, et, q⟩ := q1
  have hst : PO X (some (.UnaryOp .USub (.Constant (.int 1) k p1) p2)) (tPart (tUn (rU fun i => .int (-i)) (tC (.int 1)))) := po_some (pe_un un_neg pe_int)
  refine wpAny_Slice (thn (po_none.run pins s1 σ H1 (fun o H2 => o = none ∧ H2 = H1) I1 ⟨rfl, rfl⟩) fun vl s2 ⟨l, H2, I2, pl, el, e2⟩ => ?_)
  subst el e2
  refine thn (po_none.run pins s2 σ H2 (fun o H3 => o = none ∧ H3 = H2) I2 ⟨rfl, rfl⟩) fun vu s3 ⟨u, H3, I3, pu, eu, e3⟩ => ?_
  subst eu e3
  refine thn (hst.run pins s3 σ H3 (fun o H4 => o = some (-1) ∧ H4 = H3) I3 ⟨1, rfl, -1, rfl, rfl, rfl⟩) fun vs s4 ⟨o, H4, I4, ps, eo, e4⟩ => ?_
  subst eo e4
  have I5 : Inv X pins σ H4 { s4 with heap := s4.heap.push { cls := .type "slice", data := .fields #[vl, vu, vs] } } := I4.kept (t' := s4.toks) fun b ob q => Heap.get?_push_of_some _ q
  have hsl := Heap.IsSliceOf.new s4.heap vl vu vs
  unfold revT at et
  split at et
  · rename_i xs e1
    cases et
    obtain ⟨a, ws, rfl, h1, q1⟩ := rx.lst e1
    obtain rfl : v = Value.ref a := r1
    obtain ⟨its, r, ht, hz⟩ := I5.list (SqL.of h1)
    have hlen := r.length
    show wpAny (model X.prog X.w) X.A (subscriptTail e (.Slice none none (some (.UnaryOp .USub (.Constant (.int 1) k p1) p2)) p3) (.ref a) (.ref s4.heap.objs.size)) (EP X pins σ Q) X.xe { s4 with heap := s4.heap.push { cls := .type "slice", data := .fields #[vl, vu, vs] } }
    refine tail_any (ops := [.ref a, .ref s4.heap.objs.size]) ht.isList.typeIs (PySem.slot_list_getitem.lookup) ?_ (by with_unfolding_all rfl)
    refine wpAny_getItem_list_slice ht.isList hsl pl pu ps (by decide) ?_ (by rw [List.size_toArray]; omega)
    rw [PySem.W.krv_pick]
    refine ⟨.ref _, _, I5.laid (t' := s4.toks) (o := .lst ws.reverse) (fun b ob q => Heap.get?_push_of_some _ q) (Nat.le_refl _) ?_, rfl, new_lst j (Reps.reverse q1) (fun v P' H' g r => q v hd P' H' g r) _ (I5.hok.fresh (Nat.le_refl _))⟩
    exact ⟨by rw [List.length_reverse]; exact hz, _, 0, r.reverse, Heap.get?_push_size _ rfl⟩
  · rename_i xs e1
    cases et
    obtain ⟨a, ws, rfl, h1, q1⟩ := rx.tup e1
    obtain rfl : v = Value.ref a := r1
    obtain ⟨its, r, ht, hz⟩ := I5.tuple (SqT.of h1)
    have hlen := r.length
    show wpAny (model X.prog X.w) X.A (subscriptTail e (.Slice none none (some (.UnaryOp .USub (.Constant (.int 1) k p1) p2)) p3) (.ref a) (.ref s4.heap.objs.size)) (EP X pins σ Q) X.xe { s4 with heap := s4.heap.push { cls := .type "slice", data := .fields #[vl, vu, vs] } }
    refine tail_any (ops := [.ref a, .ref s4.heap.objs.size]) (T := "tuple") ht.typeIs PyProof.Rows.slot_tuple_getitem.lookup ?_ (by with_unfolding_all rfl)
    refine getItem_tuple_rev ht hsl pl pu ps ?_ (by rw [List.size_toArray]; omega)
    refine ⟨.ref _, _, I5.laid (t' := s4.toks) (o := .tup ws.reverse) (fun b ob q => Heap.get?_push_of_some _ q) (Nat.le_refl _) ?_, rfl, new_tup j (Reps.reverse q1) (fun v P' H' g r => q v hd P' H' g r) _ (I5.hok.fresh (Nat.le_refl _))⟩
    exact ⟨by rw [List.length_reverse]; exact hz, _, r.reverse, IsTup.new _ _⟩
  · rename_i z e1
    have h1 := rx.str e1
    subst h1
    split at et
    · rename_i hz
      cases et
      obtain ⟨t0, rfl⟩ : ∃ t0, v = Value.str z t0 := r1
      obtain ⟨os, hos, hcs, hds⟩ := hsl
      obtain ⟨l, rfl, el⟩ := IsPart.raw pl
      obtain ⟨u, rfl, eu⟩ := IsPart.raw pu
      obtain ⟨c, rfl, ec⟩ := IsPart.raw ps
      have el' : l = none := by cases l with | none => rfl | some _ => cases el
      have eu' : u = none := by cases u with | none => rfl | some _ => cases eu
      subst el' eu'
      cases c with
      | none => cases ec
      | some c =>
        have e1 : c.1 = -1 := by
          have : some c.1 = some (-1) := ec
          injection this with this
        show wpAny (model X.prog X.w) X.A (subscriptTail e (.Slice none none (some (.UnaryOp .USub (.Constant (.int 1) k p1) p2)) p3) (.str z t0) (.ref s4.heap.objs.size)) (EP X pins σ Q) X.xe _
        refine tail_any (ops := [.str z t0, .ref s4.heap.objs.size]) (T := "str") (typeIs_str _ _ _) F.slot_str_getitem.lookup ?_ (by with_unfolding_all rfl)
        refine wpAny_getItem_str_slice (l := none) (u := none) (st := some c) ⟨os, hos, hcs, hds⟩ (by show (c.1 == 0) = false; rw [e1]; decide) ?_
        have hrev : revS z = ⟨((Builtin.Str.strSliceIndices none none c.1 z.length).filterMap (z.cps[·]?)).toArray⟩ := by
          rw [e1]
          unfold revS
          have : Builtin.Str.strSliceIndices none none (-1) z.length = sliceRange ((z.length : Int) - 1) (-1) (-1) := rfl
          rw [this, krv_sliceRange, krv_range, List.filterMap_reverse]
          show _ = (⟨(List.filterMap (fun i => z.cps[i]?) (List.range z.cps.size)).reverse.toArray⟩ : Str)
          rw [krv_all]
        show Made.post (if (c.1 == 1 && _) = true then Made.val (.str z t0) else Made.str ⟨((Builtin.Str.strSliceIndices none none c.1 z.length).filterMap (z.cps[·]?)).toArray⟩) (EP X pins σ Q) _
        rw [e1, if_neg (by rw [show ((-1 : Int) == 1) = false from rfl, Bool.false_and]; decide), ← e1, ← hrev]
        refine ⟨?_, .str _, H4, I5.tok _, ⟨_, rfl⟩, q _ hd P H4 j.refl (Rep.str _)⟩
        show (z.cps.toList.reverse.toArray).size ≤ sizeLine
        rw [List.size_toArray, List.length_reverse, Array.length_toList]
        exact hz
    · cases et
  · cases et
theorem de_rev (ha : DE hv X e fa) : DE hv X (.Subscript e (.Slice none none (some (.UnaryOp .USub (.Constant (.int 1) k p1) p2)) p3) pos) (dRev fa) := by
  refine pe_imp (pe_revT (hv := hv) ha) fun σ H Q ⟨γ, hd, P, Q0, S, f, k⟩ => ?_
  refine ⟨γ, hd, P, _, S, f, fun tx qx x hd1 P1 H1 g1 r1 => ?_⟩
  obtain ⟨t, e, q⟩ := of_onS qx
  refine ⟨hd1, P1, H, tx, t, g1.j, r1, e, fun v hd4 P4 H4 g4 r4 => ?_⟩
  exact k t q v hd4 P4 H4 (g1.trans S.j g4) (r4.start fun a h => g1.free S.j h)
end
@[simp] theorem rev_t {s : List D} : revT (.pl (.d (.tuple s))) = some (.pl (.d (.tuple s.reverse))) := (rfl)
@[simp] theorem rev_l {s : List D} : revT (.pl (.d (.list s))) = some (.fr s.reverse) := (rfl)
@[simp] theorem rev_fr {s : List D} : revT (.fr s) = some (.fr s.reverse) := (rfl)
@[simp] theorem rev_lv {s : List D} : revT (.lv s) = some (.fr s.reverse) := (rfl)
end DL

namespace DL
open PySem PySem.Spec PyProof.Rows L2 PySem.W
/-! ### x[k] += e, x an own list of ints -/
def isI (Q : Int → Prop) (x : D) : Prop := match x with
  | .int a => Q a
  | _ => False
def dAugL (sub : Bool) (i : Nat) (fk fe : FE) : FS := fun γ K => onS (γ[i]?) fun s => match s with
  | .ol ds => fk γ (toI fun j => onS (ixN ds.length j) fun n => onS (ds[n]?) (isI fun a => fe γ (toI fun b => K.nx (γ.set i (.ol (ds.set n (.int (if sub = true then a - b else a + b))))))))
  | _ => False
theorem of_toI {Q : Int → Prop} {t : TV} (h : toI Q t) : ∃ i, t.data = some (.int i) ∧ Q i := toI_ok h
section
variable {X : Cx} {hv : Hv} {pos tpos p0 : Pos} {fe fk : FE} {e k : Expr} {i : Nat} {x : Str} {sub : Bool}
theorem get_listI : PGet X (fun o j H Q => ∃ p xs k n v, o = .ref p ∧ j = .int k ∧ H p = some (.lst xs) ∧ ixN xs.length k = some n ∧ xs[n]? = some v ∧ Q v H) := by
  intro pins s σ H o j ov iv Q I ro ri ⟨p, xs, k, n, v, e1, e2, hp, hn, hx, q⟩
  subst e1 e2
  cases ro
  obtain ⟨t, rfl⟩ := ri
  obtain ⟨its, r, pl, hz⟩ := I.list (SqL.of (K := X.K) hp)
  obtain ⟨h1, h2, h3, h4⟩ := ixN_seq hn
  have hl := r.length
  have hs := line63
  obtain ⟨w, ew, rw'⟩ := r.get hx
  have fin : EP X pins σ Q w s := ⟨v, H, I, rw', q⟩
  by_cases h0 : 0 ≤ k
  · have hk : k.toNat = n := by
      rw [seqIndex_of h0 (by omega)] at h1
      exact Option.some.inj h1
    exact wpAny_getItem_list pl.isList h0 (by omega) (by rw [hk]; simpa using ew) fin
  · have hk : (k + (its.toArray.size : Int)).toNat = n := by
      rw [seqIndex_neg (by omega) (by omega)] at h1
      rw [List.size_toArray, ← hl]
      exact Option.some.inj h1
    exact wpAny_getItem_list_neg pl.isList (by omega) (by rw [List.size_toArray] <;> omega) (by omega) (by rw [hk]; simpa using ew) fin
theorem ip_i (sub : Bool) : PIp X (opOf sub) (ipI fun i j => if sub = true then i - j else i + j) := by
  cases sub
  · exact ip_add
  · exact ip_sub
theorem ds_augL (hx : PE X (.Name x p0) (tVar i)) (hk : DE hv X k fk) (he : DE hv X e fe)
    (ha : ∀ ov iv new, augStore k ov iv new = (do holding [new, ov, iv] (setItem ov iv new); release [new, ov, iv] []; pure .next) := by intros; rfl) :
    DS hv X (.AugAssign (.Subscript (.Name x p0) k tpos) (opOf sub) e pos) (dAugL sub i fk fe) :=
  ps_imp (ps_augS hx hk get_listI he (ip_i sub) set_list ha) fun En σ H ⟨F, γ, hd, P, K0, S, q, ok⟩ => by
    obtain ⟨s, eg, q⟩ := of_onS q
    cases s with
    | ol ds =>
      obtain ⟨p, vs, h1, nh, h2, h3, np⟩ := S.s.ol i ds eg
      refine ⟨.ref p, h1, γ, hd, P, _, S.s, q, fun t qt w hd1 P1 H1 g1 r1 => ?_⟩
      obtain ⟨j, e1, qt⟩ := toI_ok qt
      obtain rfl := r1.int e1
      obtain ⟨n, en, qt⟩ := of_onS qt
      obtain ⟨d, ed, qt⟩ := of_onS qt
      have S1 := S.grow g1
      obtain ⟨p', vs', e1', nh', h2', h3', np'⟩ := S1.s.ol i ds eg
      rw [h1] at e1'
      cases e1'
      have h4 := g1.keep _ _ h2 nh
      rw [h4] at h2'
      cases h2'
      obtain ⟨u, hu1, hu2⟩ := h3'.get' ed
      refine ⟨p, vs, j, n, u, rfl, rfl, h4, by rw [h3'.length]; exact en, hu1, ?_⟩
      cases d with
      | int a =>
        cases hu2
        refine ⟨γ, hd1, P1, _, S1.s, qt, fun t2 qt2 w2 hd2 P2 H2 g2 r2 => ?_⟩
        obtain ⟨b, e2, qk⟩ := toI_ok qt2
        obtain rfl := r2.int e2
        refine ⟨a, b, rfl, rfl, ?_⟩
        have S2 := S1.grow g2
        obtain ⟨p2, vs2, e3, nh3, h5, h6, np3⟩ := S2.s.ol i ds eg
        rw [h1] at e3
        cases e3
        have h7 := g2.keep _ _ h4 nh'
        rw [h7] at h5
        cases h5
        refine ⟨p, vs, j, n, rfl, rfl, h7, by rw [h6.length]; exact en, ?_⟩
        exact ol_done S2 ((ok.later (g1.kept S.s.j)).later (g2.kept S1.s.j)) eg h1 nh3 np3 h7 (Reps.set (Rep.int _) n h6) qk
      | _ => exact qt.elim
    | _ => exact q.elim
end
theorem ev_augL {sub : Bool} {i : Nat} {fk fe : FE} {γ : Gam} {K : DK} {ds : List D} (h : γ[i]? = some (.ol ds)) : dAugL sub i fk fe γ K = fk γ (toI fun j => onS (ixN ds.length j) fun n => onS (ds[n]?) (isI fun a => fe γ (toI fun b => K.nx (γ.set i (.ol (ds.set n (.int (if sub = true then a - b else a + b)))))))) := by
  unfold dAugL
  rw [h]
  rfl
@[simp] theorem isI_i {Q : Int → Prop} {a : Int} : isI Q (.int a) = Q a := (rfl)
end DL

namespace DL
open PySem PySem.Spec PyProof.Rows L2 PySem.W
/-! ### list(range(..)), tuple(range(..)) -/
abbrev FR := Gam → (Int → Int → Prop) → Prop
def tDR (c : Cfg) (f : FR) : L2.St → Hp → (Int → Int → Hp → Prop) → Prop := fun σ H Q => ∃ γ hd P Q0, Sta c γ σ hd P H ∧ f γ Q0 ∧ ∀ a b, Q0 a b → ∀ hd' P' H', Grow c hd P H hd' P' H' → Q a b H'
def dRv1 (fa : FE) : FR := fun γ Q => fa γ (toI fun n => Q 0 n)
def dRv2 (fa fb : FE) : FR := fun γ Q => fa γ (toI fun i => fb γ (toI fun j => Q i j))
noncomputable def dLstR (f : FR) : FE := fun γ Q => f γ fun a b => RgOk a b ∧ Q (.fr (rangeD a (b - a).toNat))
noncomputable def dTupR (f : FR) : FE := fun γ Q => f γ fun a b => RgOk a b ∧ Q (pd (.tuple (rangeD a (b - a).toNat)))
theorem reps_rg {K : PySem.W.Frag} {P : Pd} {H : Hp} (a b : Int) : Reps K P H (rgV a b) (rangeD a (b - a).toNat) := by
  rw [rangeD_def]
  unfold rgV
  generalize (List.range (b - a).toNat) = l
  induction l with
  | nil => exact .nil
  | cons x r ih => exact .cons (.int _) ih
section
variable {X : Cx} {hv : Hv} {e e2 : Expr} {fa fb : FE} {fr : FR} {p pos : Pos}
theorem dr_1 (hm : X.mg "range" = none) (ha : DE hv X e fa) (hg : Gl X "range" := by rfl) (na : starEach [e] X.env = (false, eval e X.env) :: starEach [] X.env := by rfl) : PRg X (.Call (.Name "range" p) [e] [] pos) (tDR ⟨X.K, hv⟩ (dRv1 fa)) := by
  intro pins s σ H Q I ⟨γ, hd, P, Q0, S, f, k⟩
  refine prg_1 hg hm ha na pins s σ H Q I ⟨γ, hd, P, _, S, f, fun t qt v hd1 P1 H1 g1 r1 => ?_⟩
  obtain ⟨n, e1, q⟩ := toI_ok qt
  exact ⟨n, r1.int e1, k _ _ q hd1 P1 H1 g1⟩
theorem dr_2 (hm : X.mg "range" = none) (ha : DE hv X e fa) (hb : DE hv X e2 fb) (hg : Gl X "range" := by rfl) (na : starEach [e, e2] X.env = (false, eval e X.env) :: starEach [e2] X.env := by rfl)
    (nb : starEach [e2] X.env = (false, eval e2 X.env) :: starEach [] X.env := by rfl) (hp : (backTo pos (starEach [e2] X.env)).any (·.1) = false := by rfl) : PRg X (.Call (.Name "range" p) [e, e2] [] pos) (tDR ⟨X.K, hv⟩ (dRv2 fa fb)) := by
  intro pins s σ H Q I ⟨γ, hd, P, Q0, S, f, k⟩
  refine prg_2 hg hm ha hb na nb hp pins s σ H Q I ⟨γ, hd, P, _, S, f, fun t qt v hd1 P1 H1 g1 r1 => ?_⟩
  obtain ⟨i, e1, qt⟩ := toI_ok qt
  refine ⟨γ, hd1, P1, _, S.grow g1, qt, fun t2 qt2 v2 hd2 P2 H2 g2 r2 => ?_⟩
  obtain ⟨j, e2, q⟩ := toI_ok qt2
  exact ⟨i, j, r1.int e1, r2.int e2, k _ _ q hd2 P2 H2 (g1.trans S.j g2)⟩
theorem de_lstR (hc : X.calm = true) (hm : X.mg "list" = none) (he : PRg X e (tDR ⟨X.K, hv⟩ fr)) (hg : Gl X "list" := by rfl) (na : starEach [e] X.env = (false, eval e X.env) :: starEach [] X.env := by rfl) : DE hv X (.Call (.Name "list" p) [e] [] pos) (dLstR fr) :=
  pe_imp (pe_listRg hc hg hm he na) fun σ H Q ⟨γ, hd, P, Q0, S, f, k⟩ => ⟨γ, hd, P, _, S, f, fun a b ⟨ok, q⟩ hd1 P1 H1 g1 => ⟨ok, new_lst g1.j (reps_rg a b) fun v P' H' g r => k _ q v hd1 P' H' (g1.trans S.j g) (r.start fun a h => g1.free S.j h)⟩⟩
theorem de_tupR (hc : X.calm = true) (hm : X.mg "tuple" = none) (he : PRg X e (tDR ⟨X.K, hv⟩ fr)) (hg : Gl X "tuple" := by rfl) (na : starEach [e] X.env = (false, eval e X.env) :: starEach [] X.env := by rfl) : DE hv X (.Call (.Name "tuple" p) [e] [] pos) (dTupR fr) :=
  pe_imp (pe_tupRg hc hg hm he na) fun σ H Q ⟨γ, hd, P, Q0, S, f, k⟩ => ⟨γ, hd, P, _, S, f, fun a b ⟨ok, q⟩ hd1 P1 H1 g1 => ⟨ok, new_tup g1.j (reps_rg a b) fun v P' H' g r => k _ q v hd1 P' H' (g1.trans S.j g) (r.start fun a h => g1.free S.j h)⟩⟩
end
section
variable {γ : Gam} {fa fb : FE} {fr : FR} {Q : TV → Prop} {Q2 : Int → Int → Prop}
@[simp] theorem ev_rv1 : dRv1 fa γ Q2 = fa γ (toI fun n => Q2 0 n) := (rfl)
@[simp] theorem ev_rv2 : dRv2 fa fb γ Q2 = fa γ (toI fun i => fb γ (toI fun j => Q2 i j)) := (rfl)
@[simp] theorem ev_lstR : dLstR fr γ Q = fr γ fun a b => RgOk a b ∧ Q (.fr (rangeD a (b - a).toNat)) := (rfl)
@[simp] theorem ev_tupR : dTupR fr γ Q = fr γ fun a b => RgOk a b ∧ Q (.pl (.d (.tuple (rangeD a (b - a).toNat)))) := (rfl)
end
/-! ### the empty dict, shown -/
section
variable {X : Cx} {hv : Hv} {pins : List (Addr × Obj)} {σ : L2.St} {H : Hp} {s : Shared} {P : Pd}
theorem reads_dict0 (I : Inv X pins σ H s) {v : V} {u : Value} (r : Rep X.K P H v (.dict [])) (ra : RelV v u) : ∃ a, u = .ref a ∧ Reads s.heap (.ref a) (.dict []) [a] ∧ (a == sysModules) = false := by
  generalize hd : PyData.dict [] = d at r
  cases r with
  | non => cases hd
  | bl b => cases hd
  | int i => cases hd
  | str x => cases hd
  | lst h1 h2 h3 => cases hd
  | tup h1 h2 => cases hd
  | @dK a kvs ds h hp rs =>
    have hk : kvs = [] := by
      have hl := rs.length
      have hz : (kvs.map fun q => keyD q.1).zip ds = [] := by injection hd with hd; exact hd.symm
      have hlz := congrArg List.length hz
      rw [List.length_zip, List.length_map] at hlz
      rw [List.length_map] at hl
      simp only [List.length_nil] at hlz
      exact List.eq_nil_of_length_eq_zero (by omega)
    subst hk
    cases ra
    obtain ⟨_, hsys, vs, rel, dof⟩ := dk_of I.hok h
    cases rel
    obtain ⟨o, es, ep, ho, hex, hdat, hko, hpr, hnd⟩ := dof
    have he : es.toList = [] := by
      generalize es.toList = l at hpr
      cases hpr
      rfl
    refine ⟨a, rfl, ?_, hsys⟩
    have := Reads.dict (kvs := []) (as := []) (bs := []) ho hex.1 hdat (by rw [he]; exact ReadsAll.nil) (by rw [he]; exact ReadsAll.nil)
    exact this
  | @dT a kvs ds h hp rs =>
    have hk : kvs = [] := by
      have hl := rs.length
      have hz : (kvs.map fun q => keyTD q.1).zip ds = [] := by injection hd with hd; exact hd.symm
      have hlz := congrArg List.length hz
      rw [List.length_zip, List.length_map] at hlz
      rw [List.length_map] at hl
      simp only [List.length_nil] at hlz
      exact List.eq_nil_of_length_eq_zero (by omega)
    subst hk
    cases ra
    obtain ⟨_, hsys, xs, rel, dof⟩ := dt_of I.hok h
    cases rel
    obtain ⟨o, es, ep, ho, hex, hdat, hes, _, _⟩ := dof
    refine ⟨a, rfl, ?_, hsys⟩
    have := Reads.dict (kvs := []) (as := []) (bs := []) ho hex.1 hdat (by rw [hes]; exact ReadsAll.nil) (by rw [hes]; exact ReadsAll.nil)
    exact this
end
def gReprE : G1 := fun ts Q => match ts with
  | [a] => (match a.data with
    | some (.dict []) => Q (pd (.str (PyData.shown (.dict []))))
    | _ => gRepr [a] Q)
  | _ => False
section
variable {X : Cx} {hv : Hv}
theorem cd_reprE (hgd : X.A.guards = some []) (hu : X.A.units + 64 < cLine) : CallR X (.builtin "repr") (rDC ⟨X.K, hv⟩ gReprE) := by
  intro pins s σ H xs us Q I r ⟨hd, P, H0, ts, Q0, j, rs, q, k⟩
  unfold gReprE at q
  split at q
  · obtain ⟨v, rfl, r1⟩ := ress1 rs
    split at q
    · rename_i e1
      cases r with
      | cons ra rr =>
        cases rr
        obtain ⟨a, rfl, hr, hs⟩ := reads_dict0 I (r1.rep e1) ra
        refine repr_of_reads' hr (by rfl) (fun _ z => ?_) hgd (by show X.A.units + (1 + 1) < cLine; omega) (fun _ _ z => z) (fun h' u tk hk => ⟨.str _, H, I.kept hk, ⟨_, rfl⟩, k _ q _ P H j.refl (Rep.str _)⟩) (by decide +kernel)
        rw [List.mem_singleton] at z
        rw [← z] at hs
        simp at hs
    · exact cd_repr hgd hu pins s σ H _ _ Q I r ⟨hd, P, H0, _, Q0, j, rs, q, k⟩
  · exact q.elim
end
section
variable {x : TV} {Q : TV → Prop} {ds : List D} {i : Int} {b : Bool}
@[simp] theorem gReprE_i : gReprE [.pl (.d (.int i))] Q = (i.natAbs < 10 ^ 12 ∧ Q (.pl (.d (.str (PyData.shown (.int i)))))) := (rfl)
@[simp] theorem gReprE_b : gReprE [.pl (.d (.bool b))] Q = Q (.pl (.d (.str (PyData.shown (.bool b))))) := (rfl)
@[simp] theorem gReprE_n : gReprE [.pl (.d .none)] Q = Q (.pl (.d (.str (PyData.shown .none)))) := (rfl)
@[simp] theorem gReprE_s {z : Str} : gReprE [.pl (.d (.str z))] Q = ((reprText z).length ≤ sizeLine ∧ Q (.pl (.d (.str (PyData.shown (.str z)))))) := (rfl)
@[simp] theorem gReprE_t : gReprE [.pl (.d (.tuple ds))] Q = (okRepr (.tuple ds) = true ∧ Q (.pl (.d (.str (PyData.shown (.tuple ds)))))) := (rfl)
@[simp] theorem gReprE_l : gReprE [.pl (.d (.list ds))] Q = (okRepr (.list ds) = true ∧ Q (.pl (.d (.str (PyData.shown (.list ds)))))) := (rfl)
@[simp] theorem gReprE_fr : gReprE [.fr ds] Q = (okRepr (.list ds) = true ∧ Q (.pl (.d (.str (PyData.shown (.list ds)))))) := (rfl)
@[simp] theorem gReprE_lv : gReprE [.lv ds] Q = (okRepr (.list ds) = true ∧ Q (.pl (.d (.str (PyData.shown (.list ds)))))) := (rfl)
@[simp] theorem gReprE_e : gReprE [.pl (.d (.dict []))] Q = Q (.pl (.d (.str (PyData.shown (.dict []))))) := (rfl)
end
end DL

namespace DL
open PySem PySem.Spec PyProof.Rows L2 PySem.W
/-! ### tuple * int, none and once too -/
theorem tupMul0 (l : Addr) (items : Array Value) (n : Nat) (dd : Option Addr) (sl : Array (Option Value)) (x : Int) (u : Tok) (c0 : (decide (x < -(2 ^ 63)) || decide (x ≥ 2 ^ 63)) = false) (c1 : (items.isEmpty || x == 1) = false) (c2 : (decide (x ≤ 0) || items.isEmpty) = true) :
    PySem.Meets (Builtin.«tuple.__mul__» ⟨[.ref l, .int x u], []⟩) (fun _ R s => s.heap.get? l = some { cls := .type "tuple", dict := dd, data := .seq items n, slots := sl } ∧
      R (.ok (.ret (Value.ref s.heap.objs.size))) { s with heap := s.heap.push { cls := Value.type "tuple", data := Data.seq #[] }, toks := s.toks }) :=
  .of_wp fun prog w A R s h => by
    obtain ⟨hp, g, d, tk, os⟩ := s
    obtain ⟨hl, h⟩ := h
    have f1 := AutoSeq1.idx_int
    wp_walk using wpAny_loadPart' hl
    repeat (first
      | (refine wpAny_ite_false (decide_eq_false (by rw [c0]; exact Bool.false_ne_true)) ?_; wp_walk using wpAny_loadPart' hl)
      | (refine wpAny_ite_false (decide_eq_false (by rw [c1]; exact Bool.false_ne_true)) ?_; wp_walk using wpAny_loadPart' hl)
      | (refine wpAny_ite_true (decide_eq_true c2) ?_; wp_walk using wpAny_loadPart' hl))
    exact ⟨_, rfl, h⟩
theorem tupMul1 (l : Addr) (items : Array Value) (n : Nat) (dd : Option Addr) (sl : Array (Option Value)) (x : Int) (u : Tok) (c0 : (decide (x < -(2 ^ 63)) || decide (x ≥ 2 ^ 63)) = false) (c1 : (items.isEmpty || x == 1) = true) :
    PySem.Meets (Builtin.«tuple.__mul__» ⟨[.ref l, .int x u], []⟩) (fun _ R s => s.heap.get? l = some { cls := .type "tuple", dict := dd, data := .seq items n, slots := sl } ∧
      R (.ok (.ret (Value.ref l))) s) :=
  .of_wp fun prog w A R s h => by
    obtain ⟨hp, g, d, tk, os⟩ := s
    obtain ⟨hl, h⟩ := h
    have f1 := AutoSeq1.idx_int
    wp_walk using wpAny_loadPart' hl
    repeat (first
      | (refine wpAny_ite_false (decide_eq_false (by rw [c0]; exact Bool.false_ne_true)) ?_; wp_walk using wpAny_loadPart' hl)
      | (refine wpAny_ite_true (decide_eq_true c1) ?_; wp_walk using wpAny_loadPart' hl))
    exact ⟨_, rfl, h⟩
def mulU (x y : TV) : Option TV := match x.data, y.data with
  | some (.tuple xs), some (.int k) => if -1000 ≤ k ∧ k ≤ 1000 ∧ xs.length ≤ 1000 then some (pd (.tuple (List.replicate k.toNat xs).flatten)) else none
  | _, _ => mulT x y
theorem flat_nil {α : Type} (n : Nat) : (List.replicate n ([] : List α)).flatten = [] := by
  induction n with
  | zero => rfl
  | succ n ih => rw [List.replicate_succ, List.flatten_cons, ih]; rfl
theorem od_mulU {X : Cx} {hv : Hv} : OpD hv X (binaryOp .Mult) mulU := by
  intro pins s σ H x y v u Q I rx ry ⟨hd, P, H0, tx, ty, t, j, r1, r2, e, k⟩
  unfold mulU at e
  split at e
  · rename_i xs m e1 e2
    obtain ⟨p, vs, rfl, h1, q1⟩ := r1.tup e1
    have h2 := r2.int e2
    subst h2
    have hlen := q1.length
    split at e
    · rename_i hz
      cases e
      by_cases hk : 2 ≤ m ∧ xs ≠ []
      · exact op_repT pins s σ H _ _ v u Q I rx ry ⟨p, m, vs, rfl, rfl, SqT.of h1, fun z => hk.2 (by rw [z] at hlen; exact List.eq_nil_of_length_eq_zero hlen.symm), hk.1, hz.2.1, by omega, new_tup j (Reps.rep q1 _) k⟩
      · cases rx
        obtain ⟨t0, rfl⟩ := ry
        obtain ⟨its, r, ⟨⟨cls, dd, data, sl⟩, ho, hc, n, hd'⟩, hs⟩ := I.tuple (SqT.of (K := X.K) h1)
        simp only at hc hd'
        subst hc hd'
        have hle := r.length
        have c0 : (decide (m < -(2 ^ 63)) || decide (m ≥ 2 ^ 63)) = false := by
          rw [decide_eq_false (by omega), decide_eq_false (by omega)] <;> rfl
        have start : ∀ {R : Value → Shared → Prop}, wpAny (model X.prog X.w) X.A (call (.builtin "tuple.__mul__") [.ref p, .int m t0]) R X.xe s → wpAny (model X.prog X.w) X.A (binaryOp .Mult (.ref p) (.int m t0)) R X.xe s := fun h =>
          wpAny_binaryOp_repeat_ref (T := "tuple") (U := "int") (by decide) ⟨_, ho, rfl⟩ (fun s' => typeIs_int s' m t0) noFill_tuple_mul F.fills_int_mul F.slot_int_rmul repeat_tuple F.slot_int_index.lookup
            (call_meets F.slot_int_rmul (typeIs_int s m t0) F.entry_int_rmul (F.args_int_rmul_2 _ _) (int_rmul_tuple m t0 p its.toArray n dd sl) ⟨ho, rfl, ⟨_, ho, rfl⟩, h⟩)
        by_cases h1' : (its.toArray.isEmpty || m == 1) = true
        · have same : (List.replicate m.toNat xs).flatten = xs := by
            rw [Bool.or_eq_true] at h1'
            rcases h1' with h3 | h3
            · have e3 : its = [] := by
                cases its with
                | nil => rfl
                | cons a b => cases h3
              have e4 : xs = [] := by
                rw [e3] at hle
                exact List.eq_nil_of_length_eq_zero (by rw [← hlen]; exact hle)
              rw [e4, flat_nil]
            · have e3 : m = 1 := eq_of_beq h3
              rw [e3]
              show (List.replicate 1 xs).flatten = xs
              simp
          rw [same] at k
          exact start (call_meets F.slot_tuple_mul ⟨_, ho, rfl⟩ F.entry_tuple_mul (F.args_tuple_mul_2 _ _) (tupMul1 p its.toArray n dd sl m t0 c0 h1') ⟨ho, ⟨.ref p, H, I, rfl, k _ P H j.refl (Rep.tup h1 q1)⟩⟩)
        · have c1 : (its.toArray.isEmpty || m == 1) = false := by
            cases hb : (its.toArray.isEmpty || m == 1) with
            | true => exact absurd hb h1'
            | false => rfl
          have hm0 : m ≤ 0 := by
            rw [Bool.or_eq_false_iff] at c1
            have hm1 : m ≠ 1 := fun z => by rw [z] at c1; exact absurd c1.2 (by decide)
            have hx : xs ≠ [] := fun z => by
              rw [z] at hlen
              rw [hlen] at hle
              have : its = [] := List.eq_nil_of_length_eq_zero hle.symm
              rw [this] at c1
              exact absurd c1.1 (by decide)
            have : ¬ 2 ≤ m := fun z => hk ⟨z, hx⟩
            omega
          have same : (List.replicate m.toNat xs).flatten = [] := by
            rw [show m.toNat = 0 by omega]
            rfl
          rw [same] at k
          refine start (call_meets F.slot_tuple_mul ⟨_, ho, rfl⟩ F.entry_tuple_mul (F.args_tuple_mul_2 _ _) (tupMul0 p its.toArray n dd sl m t0 c0 c1 (by rw [decide_eq_true hm0]; rfl)) ⟨ho, ?_⟩)
          refine ⟨.ref s.heap.objs.size, _, I.laid (t' := s.toks) (o := .tup []) (fun b ob q => Heap.get?_push_of_some _ q) (Nat.le_refl _) ?_, rfl, new_tup j (vs := []) (ds := []) .nil k _ (I.hok.fresh (Nat.le_refl _))⟩
          exact ⟨Nat.zero_le _, [], .nil, IsTup.new _ _⟩
    · cases e
  · exact od_mul pins s σ H x y v u Q I rx ry ⟨hd, P, H0, tx, ty, t, j, r1, r2, e, k⟩
theorem mulU_t {xs : List D} {k : Int} (h0 : -1000 ≤ k) (h1 : k ≤ 1000) (h : xs.length ≤ 1000) : mulU (.pl (.d (.tuple xs))) (.pl (.d (.int k))) = some (.pl (.d (.tuple (List.replicate k.toNat xs).flatten))) := if_pos ⟨h0, h1, h⟩
end DL

namespace DL
open PySem PySem.Spec PyProof.Rows L2 PySem.W
/-! ### judged: any data -/
def isIntD (d : D) : Bool := PyData.isInt d && !PyData.isBool d
def inD (l h : Int) (d : D) : Bool := match d with
  | .int i => decide (l ≤ i) && decide (i ≤ h)
  | _ => false
def tupN (n : Int) (d : D) : Bool := match d with
  | .tuple ds => decide ((ds.length : Int) = n)
  | _ => false
@[simp] theorem isIntD_i {i : Int} : isIntD (.int i) = true := (rfl)
@[simp] theorem isIntD_b {i : Bool} : isIntD (.bool i) = false := (rfl)
@[simp] theorem isIntD_n : isIntD .none = false := (rfl)
@[simp] theorem isIntD_s {i : Str} : isIntD (.str i) = false := (rfl)
@[simp] theorem isIntD_l {i : List D} : isIntD (.list i) = false := (rfl)
@[simp] theorem isIntD_t {i : List D} : isIntD (.tuple i) = false := (rfl)
@[simp] theorem isIntD_d {i : List (D × D)} : isIntD (.dict i) = false := (rfl)
@[simp] theorem inD_i {l h i : Int} : inD l h (.int i) = (decide (l ≤ i) && decide (i ≤ h)) := (rfl)
@[simp] theorem tupN_t {n : Int} {ds : List D} : tupN n (.tuple ds) = decide ((ds.length : Int) = n) := (rfl)
@[simp] theorem isInt_i' {i : Int} : PyData.isInt (.int i) = true := (rfl)
@[simp] theorem isBool_i' {i : Int} : PyData.isBool (.int i) = false := (rfl)
@[simp] theorem isTuple_t' {i : List D} : PyData.isTuple (.tuple i) = true := (rfl)
def gsp_int : Spec := sp1 fun a Q => ∃ d, a = .d d ∧ Q (vB (isIntD d))
theorem gmeets_int : Meets 1 cm_int gsp_int := meets1 fun a Q ⟨d, ha, q⟩ => by
  subst ha
  cases d <;> simp [cm_int, gam0, thenK_ap] <;> simpa using q
def gsp_within : Spec := sp3 fun a b c Q => ∃ d l h, a = .d d ∧ b = vI l ∧ c = vI h ∧ Q (vB (inD l h d))
def gm_within : FS := dRet (dAndV (dCall gsp_int (dCons (dVar 0) dNil)) (dChain (ltT le_) (ltT le_) (dVar 1) (dVar 0) (dVar 2)))
theorem gmeets_within : Meets 3 gm_within gsp_within := meets3 fun a b c Q ⟨d, l, h, ha, hb, hc, q⟩ => by
  subst ha hb hc
  cases d with
  | int i =>
    simp [gm_within, gam0, thenK_ap, gsp_int]
    simp at q
    grind
  | _ => simp [gm_within, gam0, thenK_ap, gsp_int]; exact q
def gsp_tupof : Spec := sp2 fun a b Q => ∃ d n, a = .d d ∧ b = vI n ∧ Q (vB (tupN n d))
theorem gmeets_tupof : Meets 2 cm_tupof gsp_tupof := meets2 fun a b Q ⟨d, n, ha, hb, q⟩ => by
  subst ha hb
  cases d with
  | tuple ds => simp [cm_tupof, gam0, thenK_ap]; simpa using q
  | _ => simp [cm_tupof, gam0, thenK_ap]; exact q
/-- things that can be shown, or {} -/
def thingOk (d : D) : Prop := d = .dict [] ∨ (rOk 40 d = true ∧ d.weight ≤ 100000)
theorem thing_repr {d : D} {x : TV} {Q : TV → Prop} (h : thingOk d) (q : Q (.pl (.d (.str d.shown)))) : gReprE [.pl (.d d)] Q := by
  rcases h with rfl | ⟨h, hw⟩
  · exact q
  · have ok := okRepr_of h (by decide) (Nat.le_trans hw (by decide))
    cases d with
    | list ds => rw [gReprE_l]; exact ⟨ok, q⟩
    | tuple ds => rw [gReprE_t]; exact ⟨ok, q⟩
    | int i => rw [gReprE_i]; exact ⟨by simpa using h, q⟩
    | bool b => exact q
    | none => exact q
    | str z =>
      rw [gReprE_s]
      exact ⟨shown_fits' ok, q⟩
    | dict kvs => simp [rOk] at h
end DL

namespace DL
open PySem PySem.Spec PyProof.Rows L2 PySem.W
def listK (Q : List D → Prop) (d : D) : Prop := match d with
  | .list es => Q es
  | _ => False
@[simp] theorem listK_l {Q : List D → Prop} {es : List D} : listK Q (.list es) = Q es := (rfl)
def olK (Q : List D → Prop) (s : Sl) : Prop := match s with
  | .ol ds => Q ds
  | _ => False
@[simp] theorem olK_l {Q : List D → Prop} {es : List D} : olK Q (.ol es) = Q es := (rfl)
@[simp] theorem ev_ext {i : Nat} {fe : FE} {γ : Gam} {K : DK} : dExt i fe γ K = onS (γ[i]?) (olK fun ds => fe γ fun t => onS t.data (listK fun es => ds.length + es.length ≤ sizeLine ∧ K.nx (γ.set i (.ol (ds ++ es))))) := by
  unfold dExt onS
  cases γ[i]? with
  | none => rfl
  | some s =>
    cases s with
    | ol ds =>
      show fe γ _ = fe γ _
      first | done | rfl | (congr 1; funext t; cases t.data with
      | none => rfl
      | some d => cases d <;> rfl)
    | _ => rfl
@[simp] theorem ev_sub {i : Nat} {fk fv : FE} {γ : Gam} {K : DK} : dSub i fk fv γ K = (((γ[i]?).bind seen).isSome = true ∧ fv γ fun tv => onS tv.plain fun d => fk γ fun tk => onS tk.data fun k => onS (setT i d k γ) K.nx) := (rfl)
theorem setT_l {i : Nat} {d : D} {j : Int} {γ : Gam} {ds : List D} (h : γ[i]? = some (.ol ds)) (h0 : 0 ≤ j) (h1 : j < ds.length) : setT i d (.int j) γ = some (γ.set i (.ol (ds.set j.toNat d))) := by
  unfold setT
  rw [h]
  show (ixN ds.length j).map _ = _
  rw [ixN_of h0 h1]
  rfl
theorem inT_l {x y : TV} {d : D} {xs : List D} (hx : x.data = some d) (hy : y.data = some (.list xs)) (h1 : PyData.plainAll xs = true) (h2 : d.plain = true) (h3 : min (PyData.depthAll xs) d.depth ≤ 60) {neg : Bool} : inT neg x y = some (.pl (.d (.bool (xor neg (xs.any fun z => PyData.eqv z d))))) := by
  unfold inT
  simp only [hx, hy]
  cases d <;> exact if_pos (by unfold okIn; rw [h1, h2, Bool.true_and, Bool.true_and]; exact decide_eq_true h3)
theorem inT_t {x y : TV} {d : D} {xs : List D} (hx : x.data = some d) (hy : y.data = some (.tuple xs)) (h1 : PyData.plainAll xs = true) (h2 : d.plain = true) (h3 : min (PyData.depthAll xs) d.depth ≤ 60) {neg : Bool} : inT neg x y = some (.pl (.d (.bool (xor neg (xs.any fun z => PyData.eqv z d))))) := by
  unfold inT
  simp only [hx, hy]
  cases d <;> exact if_pos (by unfold okIn; rw [h1, h2, Bool.true_and, Bool.true_and]; exact decide_eq_true h3)
/-- data where == is what = is -/
def eqD : D → Bool
  | .int _ => true
  | .str _ => true
  | .none => true
  | _ => false
theorem eqvAll_ints : ∀ (xs ys : List Int), PyData.eqvAll (xs.map dI) (ys.map dI) = decide (xs = ys)
  | [], [] => by simp
  | [], y :: ys => by simp
  | x :: xs, [] => by simp
  | x :: xs, y :: ys => by
    rw [List.map_cons, List.map_cons, eqvAll_cons, eqvAll_ints xs ys, eqv_ii]
    by_cases h : x = y <;> by_cases h2 : xs = ys <;> simp [h, h2]
theorem plain_ints (xs : List Int) : PyData.plainAll (xs.map dI) = true := plainAll_of fun d hd => by
  obtain ⟨x, _, rfl⟩ := List.mem_map.mp hd
  rfl
end DL
namespace DL
open PySem PySem.Spec PyProof.Rows L2 PySem.W
theorem rOk_up : ∀ {k : Nat} {d : D}, rOk k d = true → rOk (k + 1) d = true
  | 0, d, h => by cases d <;> cases h
  | k + 1, d, h => by
    cases d with
    | list ds =>
      rw [rOk_l, List.all_eq_true] at h ⊢
      exact fun d hd => rOk_up (h d hd)
    | tuple ds =>
      rw [rOk_t, List.all_eq_true] at h ⊢
      exact fun d hd => rOk_up (h d hd)
    | dict kvs => simp [rOk] at h
    | int i => rw [rOk_i] at h ⊢; exact h
    | str z => rw [rOk_s] at h ⊢; exact h
    | bool b => simp
    | none => simp
theorem rOk_mono {k j : Nat} {d : D} (h : k ≤ j) (hd : rOk k d = true) : rOk j d = true := by
  induction h with
  | refl => exact hd
  | step _ ih => exact rOk_up ih
end DL
namespace DL
open PySem PySem.Spec PyProof.Rows L2 PySem.W
theorem typed_of_each {β : Type} {e : β → D} {P : β → Prop} : ∀ {ds : List D}, (∀ d ∈ ds, ∃ b : β, d = e b ∧ P b) → ∃ B : List β, ds = B.map e ∧ ∀ b ∈ B, P b
  | [], _ => ⟨[], rfl, fun _ h => by cases h⟩
  | d :: ds, h => by
    obtain ⟨b, rfl, hb⟩ := h d (List.mem_cons_self ..)
    obtain ⟨B, rfl, hB⟩ := typed_of_each fun d hd => h d (List.mem_cons_of_mem _ hd)
    refine ⟨b :: B, rfl, fun c hc => ?_⟩
    rcases List.mem_cons.mp hc with rfl | hc
    · exact hb
    · exact hB c hc
/-- each item gives some e b with P b -/
theorem lcX {β : Type} (e : β → D) (P : β → Prop) {b : BT} {fe : FE} {γ : Gam} {k : List D → Prop} (ds : List D) (hl : ds.length ≤ 100000) (h : ∀ d ∈ ds, ∀ k1 : D → Prop, (∀ x, P x → k1 (e x)) → onS (b d γ) fun γ2 => fe γ2 fun t => onS t.plain k1)
    (hk : ∀ bs : List β, bs.length = ds.length → (∀ x ∈ bs, P x) → k (bs.map e)) : lcD b dYes fe γ ds [] k := by
  refine lcD_each (fun _ d => ∃ x, d = e x ∧ P x) ds (big _ hl) (fun d hd k1 hk1 => h d hd k1 fun x hx => hk1 _ ⟨x, rfl, hx⟩) fun out ho hR => ?_
  obtain ⟨B, rfl, hB⟩ := typed_of_each (e := e) (P := P) (ds := out) fun d hd => by
    obtain ⟨i, hi, e1⟩ := List.getElem_of_mem hd
    obtain ⟨x, hx, hR⟩ := hR i _ (List.getElem?_eq_getElem (by omega))
    rw [List.getElem?_eq_getElem hi] at hx
    injection hx with hx
    rw [← e1, hx]
    exact hR
  exact hk B (by rw [← ho, List.length_map]) hB
end DL

namespace DL
open PySem PySem.Spec PyProof.Rows L2 PySem.W
/-! ### {k: v} -/
def keyIT (k : D) : Prop := (∃ i, k = .int i) ∨ ∃ s, k = .str s
def dDisp1 (fk fv : FE) : FE := fun γ Q => fk γ fun tk => onS tk.data fun kd => keyIT kd ∧ fv γ fun tv => onS tv.plain fun d => Q (.fd [(kd, d)])
@[simp] theorem keyIT_i {i : Int} : keyIT (.int i) = True := eq_true (.inl ⟨i, rfl⟩)
@[simp] theorem keyIT_s {i : Str} : keyIT (.str i) = True := eq_true (.inr ⟨i, rfl⟩)
@[simp] theorem ev_disp1 {fk fv : FE} {γ : Gam} {Q : TV → Prop} : dDisp1 fk fv γ Q = fk γ fun tk => onS tk.data fun kd => keyIT kd ∧ fv γ fun tv => onS tv.plain fun d => Q (.fd [(kd, d)]) := (rfl)
section
variable {X : Cx} {hv : Hv} {k v : Expr} {fk fv : FE} {pos : Pos}
theorem de_disp1 (hk : DE hv X k fk) (hvv : DE hv X v fv) : DE hv X (.Dict [some k] [v] pos) (dDisp1 fk fv) := by
  refine pe_imp (pe_disp (pps_cons hk hvv pps_nil) (by rfl) (by rfl) (by intro z; cases z) (by show 1 ≤ 15; decide)) fun σ H Q ⟨γ, hd, P, Q0, S, f, kk⟩ => ?_
  intro p hp
  have g0 := Grow.upd S.j (o := .dK []) hp
  have np := S.j.fresh hp
  have S0 := S.grow g0
  have p0 : (L2.upd H p (.dK [])) p = some (.dK []) := upd_same
  have nP : ∀ {hd' P' H'}, Grow ⟨X.K, hv⟩ hd P (L2.upd H p (.dK [])) hd' P' H' → ¬ P' p ∧ ¬ hdA hd' p ∧ H' p = some (.dK []) := fun {hd' P' H'} g => by
    refine ⟨fun z => ?_, fun z => ?_, g.keep _ _ p0 np.2⟩
    · rcases g.new p z with h | h
      · exact np.1 h
      · rw [p0] at h; cases h
    · rcases g.hds with h | ⟨_, h⟩
      · rw [h] at z; exact np.2 z
      · have := h p z
        rw [p0] at this; cases this
  refine ⟨γ, hd, P, _, S0, f, fun tk qk x hd1 P1 H1 g1 r1 => ?_⟩
  obtain ⟨kd, ek, hkey, qv⟩ := of_onS qk
  refine ⟨γ, hd1, P1, _, S0.grow g1, qv, fun tv qv y hd2 P2 H2 g2 r2 => ?_⟩
  obtain ⟨d, ed, q⟩ := of_onS qv
  obtain ⟨P3, m, rd⟩ := Res.plain g2.j r2 ed
  have g02 := g1.trans S0.j (g2.more m)
  obtain ⟨n1, n2, n3⟩ := nP g02
  refine ⟨n3, ?_⟩
  have hkey' : ∃ kk : Key, kd = keyD kk ∧ x = kV kk := by
    rcases hkey with ⟨i, rfl⟩ | ⟨s, rfl⟩
    · exact ⟨.inl i, rfl, r1.int ek⟩
    · exact ⟨.inr s, rfl, r1.str ek⟩
  obtain ⟨ky, rfl, rfl⟩ := hkey'
  refine ⟨[(ky, y)], rfl, by show 1 ≤ 15; decide, ?_⟩
  have gm := Grow.mut (g0.trans S.j g02) hp n1 n2 (.dK [(ky, y)]) n3
  have kp := kept_upd (K := X.K) (P := P3) n1 n3 (fun xs z => by cases z) (.dK [(ky, y)])
  refine kk _ q (.ref p) hd2 P3 _ gm ?_
  exact ⟨p, rfl, n2, .inl ⟨[(ky, y)], upd_same, rfl, .cons (Rep.kept kp rd) .nil⟩, hp, n1⟩
end
end DL

namespace DL
open PySem PySem.Spec PyProof.Rows L2 PySem.W
/-! ### methods that return a value: x.m(y) -/
abbrev G2 := TV → TV → (TV → Prop) → Prop
def rDM (c : Cfg) (g : G2) : V → List V → Hp → VK → Prop := fun x xs H Q => ∃ hd P H0 tx ty y Q0, xs = [y] ∧ J c hd P H ∧ Res c hd P H0 H x tx ∧ Res c hd P H0 H y ty ∧ g tx ty Q0 ∧ ∀ t, Q0 t → ∀ v hd' P' H', Grow c hd P H hd' P' H' → Res c hd' P' H H' v t → Q v H'
def isListT (t : TV) : Prop := ∃ ds, t.data = some (.list ds)
def isStrT (t : TV) : Prop := ∃ ds, t.data = some (.str ds)
def dMe (ok : TV → Prop) (g : G2) (fo fe : FE) : FE := fun γ Q => fo γ fun tx => ok tx ∧ fe γ fun ty => g tx ty Q
@[simp] theorem ev_me {ok : TV → Prop} {g : G2} {fo fe : FE} {γ : Gam} {Q : TV → Prop} : dMe ok g fo fe γ Q = fo γ fun tx => ok tx ∧ fe γ fun ty => g tx ty Q := (rfl)
@[simp] theorem isListT_l {ds : List D} : isListT (.pl (.d (.list ds))) = True := eq_true ⟨ds, rfl⟩
@[simp] theorem isListT_lv {ds : List D} : isListT (.lv ds) = True := eq_true ⟨ds, rfl⟩
@[simp] theorem isListT_fr {ds : List D} : isListT (.fr ds) = True := eq_true ⟨ds, rfl⟩
@[simp] theorem isStrT_s {z : Str} : isStrT (.pl (.d (.str z))) = True := eq_true ⟨z, rfl⟩
section
variable {X : Cx} {hv : Hv} {o e : Expr} {fo fe : FE} {apos cpos : Pos} {name : Str} {T id : String} {g : G2} {ok : TV → Prop}
theorem de_me (pa : PlainAttrs T) (slot : Slot T name id) (hty : typeOf (.builtin id) = pure (.type "method_descriptor")) (hm : MtR X id (rDM ⟨X.K, hv⟩ g)) (hok : ∀ {hd P H0 H x t}, J ⟨X.K, hv⟩ hd P H → Res ⟨X.K, hv⟩ hd P H0 H x t → ok t → tyV X.K T x H)
    (ho : DE hv X o fo) (he : DE hv X e fe)
    (hbase : attributeBase o name X.env (eval o X.env) = eval o X.env := by rfl)
    (hfew : ((backTo cpos (starEach [e] X.env)).all (fun x => !x.1) && (backToKw cpos (keywordEach [] X.env)).all (fun x => x.1.isSome) && decide ([e].length + ([] : List Keyword).length + (if ([] : List Keyword).isEmpty then 0 else 1) < 30)) = true := by rfl)
    (hline : (apos.endLine == cpos.line) = true := by rfl) (hs : starEach [e] X.env = (false, eval e X.env) :: starEach [] X.env := by rfl) (hpl : (backTo cpos (starEach [] X.env)).any (·.1) = false := by rfl) :
    DE hv X (.Call (.Attribute o name apos) [e] [] cpos) (dMe ok g fo fe) :=
  pe_imp (pe_bm pa slot hty hm ho (da_cons he da_nil hs) hbase hfew hline hs hpl) fun σ H Q ⟨γ, hd, P, Q0, S, f, k⟩ => by
    refine ⟨γ, hd, P, _, S, f, fun tx qx x hd1 P1 H1 g1 r1 => ?_⟩
    obtain ⟨hok', qx⟩ := qx
    refine ⟨hok g1.j r1 hok', γ, hd1, P1, (oneT fun ty => g tx ty Q0), S.grow g1, qx, fun ts qt ws hd2 P2 H2 g2 r2 => ?_⟩
    obtain ⟨ty, rfl, qt⟩ := oneT_ok qt
    obtain ⟨w, rfl, r3⟩ := ress1 r2
    have g12 := g1.trans S.j g2
    refine ⟨hd2, P2, H, tx, ty, w, Q0, rfl, g2.j, r1.grow g1.j g2, r3.start fun a h => g1.free S.j h, qt, fun t q v hd4 P4 H4 g4 r4 => ?_⟩
    exact k t q v hd4 P4 H4 (g12.trans S.j g4) (r4.start fun a h => g12.free S.j h)
theorem ok_list {hd : Hd} {P : Pd} {H0 H : Hp} {x : V} {t : TV} (j : J ⟨X.K, hv⟩ hd P H) (r : Res ⟨X.K, hv⟩ hd P H0 H x t) (h : isListT t) : tyV X.K "list" x H := by
  obtain ⟨ds, e⟩ := h
  obtain ⟨p, vs, rfl, h1, _⟩ := r.lst e
  exact tyL h1
theorem ok_str {hd : Hd} {P : Pd} {H0 H : Hp} {x : V} {t : TV} (j : J ⟨X.K, hv⟩ hd P H) (r : Res ⟨X.K, hv⟩ hd P H0 H x t) (h : isStrT t) : tyV X.K "str" x H := by
  obtain ⟨ds, e⟩ := h
  have := r.str e
  subst this
  rfl
/-- l.index(y) -/
def gIndex : G2 := fun x y Q => match x.data with
  | some (.list ds) => onS y.data fun d => okIn d ds = true ∧ ds.length ≤ sizeLine ∧ onS (ds.findIdx? fun z => PyData.eqv z d) fun n => Q (iv (n : Nat))
  | _ => False
def gCountL : G2 := fun x y Q => match x.data with
  | some (.list ds) => onS y.data fun d => okIn d ds = true ∧ Q (iv ((ds.countP fun z => PyData.eqv z d : Nat) : Int))
  | _ => False
def gCountT : G2 := fun x y Q => match x.data with
  | some (.tuple ds) => onS y.data fun d => okIn d ds = true ∧ Q (iv ((ds.countP fun z => PyData.eqv z d : Nat) : Int))
  | _ => False
theorem md_index (hu : X.A.units + 65 < cLine) : MtR X "list.index" (rDM ⟨X.K, hv⟩ gIndex) := by
  intro pins s σ H x xs v us Q I rx rxs ⟨hd, P, H0, tx, ty, y, Q0, e0, j, r1, r2, q, k⟩
  subst e0
  unfold gIndex at q
  split at q
  · rename_i ds e1
    obtain ⟨d, e2, q⟩ := of_onS q
    obtain ⟨ho, hz, q⟩ := q
    obtain ⟨n, en, q⟩ := of_onS q
    obtain ⟨u, rfl, ru⟩ := rxs.one
    simp only [okIn, Bool.and_eq_true, decide_eq_true_eq] at ho
    obtain ⟨as, q1⟩ := rep_reads I (r2.rep e2) ho.2.1 ru
    obtain ⟨p, vs, rfl, h1, qs⟩ := r1.lst e1
    cases rx
    obtain ⟨its, rv, hl, hzl⟩ := I.list (SqL.of h1)
    obtain ⟨bs, q2⟩ := reps_reads I qs ho.1 rv
    obtain ⟨⟨cls, dd, data, sl⟩, ho', hc, n', hd'⟩ := id hl.isList
    simp only at hc hd'
    subst hc hd'
    obtain ⟨hj, hit, hno⟩ := SeqAt.hit_at (vs := its.toArray) q2 ho.1 en
    have hs := line63
    have hvl := rv.length
    refine call_meets PySem.F.slot_list_index ⟨_, ho', rfl⟩ PySem.F.entry_list_index (PySem.F.args_list_index_2 _ _) (SeqAt.list_indexAt p its.toArray n' dd sl u _ n hj (by simp at hj; omega) hit hno)
      ⟨ho', SeqAt.items_plain (vs := its.toArray) q2 q1 ho.1 ho.2.1 (by have h : _ ≤ 60 := ho.2.2; omega), ?_⟩
    exact ⟨.int (n : Nat), H, I.tok _, ⟨_, rfl⟩, k _ q _ hd P H j.refl (Rep.int _)⟩
  · exact q.elim
theorem md_countL (hu : X.A.units + 65 < cLine) : MtR X "list.count" (rDM ⟨X.K, hv⟩ gCountL) := by
  intro pins s σ H x xs v us Q I rx rxs ⟨hd, P, H0, tx, ty, y, Q0, e0, j, r1, r2, q, k⟩
  subst e0
  unfold gCountL at q
  split at q
  · rename_i ds e1
    obtain ⟨d, e2, ho, q⟩ := of_onS q
    obtain ⟨u, rfl, ru⟩ := rxs.one
    simp only [okIn, Bool.and_eq_true, decide_eq_true_eq] at ho
    obtain ⟨as, q1⟩ := rep_reads I (r2.rep e2) ho.2.1 ru
    obtain ⟨p, vs, rfl, h1, qs⟩ := r1.lst e1
    cases rx
    obtain ⟨its, rv, hl, hzl⟩ := I.list (SqL.of h1)
    obtain ⟨bs, q2⟩ := reps_reads I qs ho.1 rv
    exact SeqAt.count_list_data (vs := its.toArray) hl.isList q2 q1 ho.1 ho.2.1 (by have h : _ ≤ 60 := ho.2.2; omega) ⟨.int _, H, I.tok _, ⟨_, rfl⟩, k _ q _ hd P H j.refl (Rep.int _)⟩
  · exact q.elim
/-- text.join(texts), text.count(text) -/
def strsOf : List D → Option (List Str)
  | [] => some []
  | .str b :: r => (strsOf r).map fun bs => b :: bs
  | _ :: _ => none
theorem strsOf_ok : ∀ {ds : List D} {bs : List Str}, strsOf ds = some bs → ds = bs.map .str
  | [], bs, h => by cases h; rfl
  | .str b :: r, bs, h => by
    rw [strsOf] at h
    obtain ⟨cs, h1, rfl⟩ := Option.map_eq_some_iff.mp h
    rw [strsOf_ok h1]
    rfl
  | .none :: _, _, h => by cases h
  | .bool _ :: _, _, h => by cases h
  | .int _ :: _, _, h => by cases h
  | .list _ :: _, _, h => by cases h
  | .tuple _ :: _, _, h => by cases h
  | .dict _ :: _, _, h => by cases h
theorem strsOf_map (bs : List Str) : strsOf (bs.map .str) = some bs := by
  induction bs with
  | nil => rfl
  | cons a r ih => rw [List.map_cons, strsOf, ih]; rfl
theorem reps_strs {K : PySem.W.Frag} {P : Pd} {H : Hp} : ∀ {vs : List V} {bs : List Str}, Reps K P H vs (bs.map .str) → vs = bs.map .str
  | _, [], h => by cases h; rfl
  | _, b :: bs, h => by
    cases h with
    | cons r rs =>
      cases r
      rw [reps_strs rs]
      rfl
def gJoin : G2 := fun x y Q => match x.data, y.data with
  | some (.str a), some (.list ds) => onS (strsOf ds) fun ys => (ys.map (·.length)).sum + ys.length * a.length ≤ 16777216 ∧ Q (pd (.str (Txt.join a ys)))
  | some (.str a), some (.tuple ds) => onS (strsOf ds) fun ys => (ys.map (·.length)).sum + ys.length * a.length ≤ 16777216 ∧ Q (pd (.str (Txt.join a ys)))
  | _, _ => False
def gCountS : G2 := fun x y Q => match x.data, y.data with
  | some (.str a), some (.str b) => Q (iv (Txt.count a b))
  | _, _ => False
theorem md_join : MtR X "str.join" (rDM ⟨X.K, hv⟩ gJoin) := by
  intro pins s σ H x xs v us Q I rx rxs ⟨hd, P, H0, tx, ty, y, Q0, e0, j, r1, r2, q, k⟩
  subst e0
  unfold gJoin at q
  split at q
  · rename_i a ds e1 e2
    obtain ⟨ys, e3, hz, q9⟩ := of_onS q
    have e4 := strsOf_ok e3
    subst e4
    have h1 := r1.str e1
    subst h1
    obtain ⟨p, vs, rfl, h2, qs⟩ := r2.lst e2
    rw [reps_strs qs] at h2
    exact mt_join pins s σ H _ _ v us Q I rx rxs ⟨a, p, ys, rfl, rfl, .inl (SqL.of h2), hz, k _ q9 _ hd P H j.refl (Rep.str _)⟩
  · rename_i a ds e1 e2
    obtain ⟨ys, e3, hz, q9⟩ := of_onS q
    have e4 := strsOf_ok e3
    subst e4
    have h1 := r1.str e1
    subst h1
    obtain ⟨p, vs, rfl, h2, qs⟩ := r2.tup e2
    rw [reps_strs qs] at h2
    exact mt_join pins s σ H _ _ v us Q I rx rxs ⟨a, p, ys, rfl, rfl, .inr (SqT.of h2), hz, k _ q9 _ hd P H j.refl (Rep.str _)⟩
  · exact q.elim
theorem md_countS : MtR X "str.count" (rDM ⟨X.K, hv⟩ gCountS) := by
  intro pins s σ H x xs v us Q I rx rxs ⟨hd, P, H0, tx, ty, y, Q0, e0, j, r1, r2, q, k⟩
  subst e0
  unfold gCountS at q
  split at q
  · rename_i a b e1 e2
    have h1 := r1.str e1
    have h2 := r2.str e2
    subst h1 h2
    exact mt_count pins s σ H _ _ v us Q I rx rxs ⟨a, b, rfl, rfl, k _ q _ hd P H j.refl (Rep.int _)⟩
  · exact q.elim
theorem de_index (hu : X.A.units + 80 < cLine) (ho : DE hv X o fo) (he : DE hv X e fe)
    (hbase : attributeBase o "index" X.env (eval o X.env) = eval o X.env := by rfl)
    (hfew : ((backTo cpos (starEach [e] X.env)).all (fun x => !x.1) && (backToKw cpos (keywordEach [] X.env)).all (fun x => x.1.isSome) && decide ([e].length + ([] : List Keyword).length + (if ([] : List Keyword).isEmpty then 0 else 1) < 30)) = true := by rfl)
    (hline : (apos.endLine == cpos.line) = true := by rfl) (hs : starEach [e] X.env = (false, eval e X.env) :: starEach [] X.env := by rfl) (hpl : (backTo cpos (starEach [] X.env)).any (·.1) = false := by rfl) :
    DE hv X (.Call (.Attribute o "index" apos) [e] [] cpos) (dMe isListT gIndex fo fe) :=
  de_me PySem.F.plainAttrs_list PySem.F.slot_list_index PySem.F.type_list_index (md_index (by omega)) ok_list ho he hbase hfew hline hs hpl
theorem de_countL (hu : X.A.units + 80 < cLine) (ho : DE hv X o fo) (he : DE hv X e fe)
    (hbase : attributeBase o "count" X.env (eval o X.env) = eval o X.env := by rfl)
    (hfew : ((backTo cpos (starEach [e] X.env)).all (fun x => !x.1) && (backToKw cpos (keywordEach [] X.env)).all (fun x => x.1.isSome) && decide ([e].length + ([] : List Keyword).length + (if ([] : List Keyword).isEmpty then 0 else 1) < 30)) = true := by rfl)
    (hline : (apos.endLine == cpos.line) = true := by rfl) (hs : starEach [e] X.env = (false, eval e X.env) :: starEach [] X.env := by rfl) (hpl : (backTo cpos (starEach [] X.env)).any (·.1) = false := by rfl) :
    DE hv X (.Call (.Attribute o "count" apos) [e] [] cpos) (dMe isListT gCountL fo fe) :=
  de_me PySem.F.plainAttrs_list PySem.F.slot_list_count PySem.F.type_list_count (md_countL (by omega)) ok_list ho he hbase hfew hline hs hpl
theorem de_countS (ho : DE hv X o fo) (he : DE hv X e fe)
    (hbase : attributeBase o "count" X.env (eval o X.env) = eval o X.env := by rfl)
    (hfew : ((backTo cpos (starEach [e] X.env)).all (fun x => !x.1) && (backToKw cpos (keywordEach [] X.env)).all (fun x => x.1.isSome) && decide ([e].length + ([] : List Keyword).length + (if ([] : List Keyword).isEmpty then 0 else 1) < 30)) = true := by rfl)
    (hline : (apos.endLine == cpos.line) = true := by rfl) (hs : starEach [e] X.env = (false, eval e X.env) :: starEach [] X.env := by rfl) (hpl : (backTo cpos (starEach [] X.env)).any (·.1) = false := by rfl) :
    DE hv X (.Call (.Attribute o "count" apos) [e] [] cpos) (dMe isStrT gCountS fo fe) :=
  de_me PySem.F.plainAttrs_str PySem.F.slot_str_count PySem.F.type_str_count md_countS ok_str ho he hbase hfew hline hs hpl
theorem de_join (ho : DE hv X o fo) (he : DE hv X e fe)
    (hbase : attributeBase o "join" X.env (eval o X.env) = eval o X.env := by rfl)
    (hfew : ((backTo cpos (starEach [e] X.env)).all (fun x => !x.1) && (backToKw cpos (keywordEach [] X.env)).all (fun x => x.1.isSome) && decide ([e].length + ([] : List Keyword).length + (if ([] : List Keyword).isEmpty then 0 else 1) < 30)) = true := by rfl)
    (hline : (apos.endLine == cpos.line) = true := by rfl) (hs : starEach [e] X.env = (false, eval e X.env) :: starEach [] X.env := by rfl) (hpl : (backTo cpos (starEach [] X.env)).any (·.1) = false := by rfl) :
    DE hv X (.Call (.Attribute o "join" apos) [e] [] cpos) (dMe isStrT gJoin fo fe) :=
  de_me PySem.F.plainAttrs_str F.slot_str_join F.type_str_join md_join ok_str ho he hbase hfew hline hs hpl
end
end DL

namespace DL
open PySem PySem.Spec PyProof.Rows L2 PySem.W
/-! ### isinstance(x, (T1, T2)) -/
section
variable {X : Cx} {hv : Hv} {e : Expr} {fe : FE} {p p2 p3 tpos pos : Pos} {x y : Str} {T U : String} {f g : D → Bool} {k : Nat}
theorem de_isa2 (hT : ∀ d : D, PySem.W.kitOne X.K (.type (tyOf d)) (.type T) = some (f d)) (hU : ∀ d : D, PySem.W.kitOne X.K (.type (tyOf d)) (.type U) = some (g d)) (hm : X.mg "isinstance" = none) (hm2 : X.mg x = none) (hm3 : X.mg y = none) (hb : bootBuiltins x = some (.type T)) (hb2 : bootBuiltins y = some (.type U)) (he : DE hv X e fe)
    (hg : Gl X "isinstance" := by rfl) (hg2 : Gl X x := by rfl) (hg3 : Gl X y := by rfl) (hn : x ≠ "__name__" := by decide) (hdb : (x == ("__debug__" : Str)) = false := by decide) (hn2 : y ≠ "__name__" := by decide) (hdb2 : (y == ("__debug__" : Str)) = false := by decide)
    (hs : starEach (e :: [.Tuple [.Name x p2, .Name y p3] k tpos]) X.env = (false, eval e X.env) :: starEach [.Tuple [.Name x p2, .Name y p3] k tpos] X.env := by rfl) (hpl : (backTo pos (starEach [.Tuple [.Name x p2, .Name y p3] k tpos] X.env)).any (·.1) = false := by rfl)
    (hs1 : starEach [.Tuple [.Name x p2, .Name y p3] k tpos] X.env = (false, eval (.Tuple [.Name x p2, .Name y p3] k tpos) X.env) :: starEach [] X.env := by rfl)
    (hs2 : starEach [.Name x p2, .Name y p3] X.env = (false, eval (.Name x p2) X.env) :: starEach [.Name y p3] X.env := by rfl) (hs3 : starEach [.Name y p3] X.env = (false, eval (.Name y p3) X.env) :: starEach [] X.env := by rfl) :
    DE hv X (.Call (.Name "isinstance" p) [e, .Tuple [.Name x p2, .Name y p3] k tpos] [] pos) (dIsa (fun d => f d || g d) fe) := by
  refine pe_imp (pe_callB call_isiT hg hm PyProof.Rows.boot_isinstance (pa_cons he (pa_cons (pe_tup (pa_cons (pe_bltn (v := .ty T) hg2 hm2 hb rfl hn hdb) (pa_cons (pe_bltn (v := .ty U) hg3 hm3 hb2 rfl hn2 hdb2) pa_nil hs3) hs2)) pa_nil hs1) hs) (by decide) (by decide) hs hpl) fun σ H Q ⟨γ, hd, P, Q0, S, ff, kk⟩ => ?_
  refine ⟨γ, hd, P, _, S, ff, fun t q v hd1 P1 H1 g1 r1 => ?_⟩
  obtain ⟨d, e1, q⟩ := of_onS q
  refine ⟨by show 2 ≤ sizeLine; decide, fun q0 hq0 => ?_⟩
  have g2 := Grow.upd g1.j (o := .tup [.ty T, .ty U]) hq0
  refine ⟨v, q0, [.ty T, .ty U], .type (tyOf d), [.type T, .type U], f d || g d, rfl, upd_same, .cons (.ty T) (.cons (.ty U) .nil), ?_, ?_, ?_⟩
  · have kp : Kept X.K TrueP H1 TrueP (L2.upd H1 q0 (.tup [.ty T, .ty U])) := ⟨fun _ h => h, fun a o h _ => by rw [upd_ne fun z => by rw [z, hq0] at h; cases h]; exact h, fun a xs h => by rw [upd_ne fun z => by rw [z, hq0] at h; cases h]; exact h⟩
    exact .base (rep_ty (Rep.kept kp (r1.rep e1)))
  · refine kitAny_cons (hT d) (fun hf => ?_) fun ht => by rw [ht]; rfl
    rw [hf, Bool.false_or]
    refine kitAny_cons (hU d) (fun hf => ?_) fun ht => ht
    rw [hf]
    exact kitAny_nil
  · exact kk _ q _ hd1 P1 _ (g1.trans S.j g2) (Rep.bl _)
end
/-! ### sorted(d), d a dict -/
mutual
theorem reads_imm {h : Heap} : ∀ {d : D} {v : Value} {as : List Addr}, Reads h v d as → imm d = true → as = []
  | .none, _, _, r, _ => by cases r; rfl
  | .bool _, _, _, r, _ => by cases r; rfl
  | .int _, _, _, r, _ => by cases r; rfl
  | .str _, _, _, r, _ => by cases r; rfl
  | .list _, _, _, _, i => by simp [imm] at i
  | .dict _, _, _, _, i => by simp [imm] at i
  | .tuple xs, _, _, r, i => by
    cases r with
    | tuple h1 h2 h3 h4 => exact reads_imms h4 (by simpa [imm] using i)
theorem reads_imms {h : Heap} : ∀ {ds : List D} {vs : List Value} {as : List Addr}, ReadsAll h vs ds as → imms ds = true → as = []
  | [], _, _, r, _ => by cases r; rfl
  | d :: ds, _, _, r, i => by
    rw [imms, Bool.and_eq_true] at i
    cases r with
    | cons h1 h2 => rw [reads_imm h1 i.1, reads_imms h2 i.2]; rfl
end
theorem imms_map {α : Type} {f : α → D} (h : ∀ a, imm (f a) = true) : ∀ l : List α, imms (l.map f) = true
  | [] => rfl
  | a :: l => by rw [List.map_cons, imms, h a, imms_map h l]; rfl
theorem imm_keyD (k : Key) : imm (keyD k) = true := by cases k <;> rfl
theorem imm_keyTD (k : List Key) : imm (keyTD k) = true := by
  show imms (k.map keyD) = true
  exact imms_map imm_keyD k
theorem imm_mem : ∀ {ds : List D}, imms ds = true → ∀ d ∈ ds, imm d = true
  | [], _, _, h => by cases h
  | a :: ds, i, d, h => by
    rw [imms, Bool.and_eq_true] at i
    rcases List.mem_cons.mp h with h | h
    · rw [h]; exact i.1
    · exact imm_mem i.2 d h
theorem DcAt.imms {K : PySem.W.Frag} {P : Pd} {H : Hp} {p : Addr} {kvs : List (D × D)} (h : DcAt K P H p kvs) : imms (kvs.map (·.1)) = true := by
  rcases h with ⟨l, _, e, _⟩ | ⟨l, _, e, _⟩
  · rw [e]; exact imms_map (fun q => imm_keyD q.1) l
  · rw [e]; exact imms_map (fun q => imm_keyTD q.1) l
theorem rep_keyD {K : PySem.W.Frag} {P : Pd} {H : Hp} (k : Key) : Rep K P H (kV k) (keyD k) := by
  cases k with
  | inl i => exact .int i
  | inr s => exact .str s
theorem reps_keyD {K : PySem.W.Frag} {P : Pd} {H : Hp} : ∀ ks : List Key, Reps K P H (ks.map kV) (ks.map keyD)
  | [] => .nil
  | k :: ks => .cons (rep_keyD k) (reps_keyD ks)
section
variable {X : Cx} {hv : Hv} {pins : List (Addr × Obj)} {σ : L2.St} {H : Hp} {s : Shared} {P : Pd} {p : Addr} {kvs : List (D × D)} {A : Around} {R : List Value → Shared → Prop} {E : Value → Shared → Prop}
/-- the keys, in a row -/
theorem keys_row (hh : A.handled = none) (I : Inv X pins σ H s) (h : DcAt X.K P H p kvs)
    (q : ∀ (h' : Heap) (tk : Nat) (acc : Array Value) (ws : List V), (∀ b o, s.heap.get? b = some o → h'.get? b = some o) → Vals ws acc.toList → Reps X.K P H ws (kvs.map (·.1)) → kvs.length ≤ sizeLine → R acc.toList { s with heap := h', toks := tk }) :
    wpAny (model X.prog X.w) A (collect (.ref p)) R E s := by
  rcases h with ⟨l, hp, e, -⟩ | ⟨l, hp, e, -⟩
  · obtain ⟨z, lo, vs, rel, dd⟩ := dk_of I.hok hp
    obtain ⟨ep, hat⟩ := dd.dictAt
    have hl : l.length = vs.length := rel.length
    have hk : kvs.length = l.length := by have := congrArg List.length e; simpa using this
    refine PySem.W.kdu_collect (PySem.W.kdl_dict (knd := mixKind X.prog X.w) (kvs := vs) (ep := ep) lo) hh hat (by omega) fun h' tk acc hk' hacc => ?_
    have hv : Vals (vs.map fun p => kV p.1) acc.toList := keys_at (by rw [Array.length_toList]; exact hacc.1) fun j v e => hacc.2 j v (by rw [← Array.getElem?_toList]; exact e)
    have ek : (vs.map fun p => kV p.1) = (l.map (·.1)).map kV := by
      have e := congrArg (List.map kV) rel.keys
      rw [e, List.map_map]
      rfl
    rw [ek] at hv
    refine q h' tk acc _ hk' hv ?_ (by omega)
    rw [e]
    have := reps_keyD (K := X.K) (P := P) (H := H) (l.map (·.1))
    rw [List.map_map] at this
    rw [List.map_map] at this
    rw [List.map_map]
    exact this
  · obtain ⟨z, hs, ks, pr, o, es, ep, ho, hx, hdt, he, hn⟩ := (show ObjOk X.prog X.w H s.heap p (.dT l) from I.hok p _ hp)
    have l1 : es.size = ks.length := size_of_entries he
    have l2 : l.length = ks.length := Paired.length pr
    have hk : kvs.length = l.length := by have := congrArg List.length e; simpa using this
    refine PySem.W.kdu_collect (kdl_raw hs hx hdt) hh ho (by omega) fun h' tk acc kp it => ?_
    have ea : acc.toList = ks.map fun x => Value.ref x.2.1 := by
      have hl : acc.toList.length = ks.length := by rw [Array.length_toList, it.1]; exact l1
      apply List.ext_getElem?
      intro j
      rw [List.getElem?_map]
      cases hj : acc.toList[j]? with
      | none =>
        have h1 := List.getElem?_eq_none_iff.mp hj
        rw [List.getElem?_eq_none (by omega)]
        rfl
      | some v =>
        obtain ⟨en, hen, hv⟩ := it.2 j v (by rw [← Array.getElem?_toList]; exact hj)
        have qe := entry_at he j
        rw [hen] at qe
        cases hb : ks[j]? with
        | none =>
          rw [hb] at qe
          cases qe
        | some b =>
          rw [hb] at qe
          have e2 : en = entryOfKey (tupleKind (mixKind X.prog X.w)) b := Option.some.inj qe
          rw [hv, e2]
          rfl
    have rv : Vals ((ks.map fun x => x.2.1).map V.ref) acc.toList := by rw [ea, show (ks.map fun x => Value.ref x.2.1) = (ks.map fun x => x.2.1).map Value.ref by rw [List.map_map]; rfl]; exact vals_refs _
    refine q h' tk acc _ kp rv ?_ (by omega)
    rw [e]
    clear rv ea he hn l1 l2 z hk hp e
    induction pr with
    | nil => exact .nil
    | cons h t ih =>
      rw [List.map_cons, List.map_cons, List.map_cons]
      exact .cons (Rep.tup h.2.1 (reps_keyD _)) ih
end
def gSortedX : G1 := fun ts Q => match ts with
  | [a] => (match a.data with
    | some (.list _) => gSorted [a] Q
    | some (.dict kvs) => gSorted [.fr (kvs.map (·.1))] Q
    | _ => False)
  | _ => False
section
variable {X : Cx} {hv : Hv}
theorem cd_sortedX (hc : X.calm = true) (hu : X.A.units + 80 < cLine) : CallR X (.builtin "sorted") (rDC ⟨X.K, hv⟩ gSortedX) := by
  intro pins s σ H xs us Q I r ⟨hd, P, H0, ts, Q0, j, rs, q, k⟩
  unfold gSortedX at q
  split at q
  · rename_i a
    split at q
    · exact cd_sorted hu pins s σ H xs us Q I r ⟨hd, P, H0, _, Q0, j, rs, q, k⟩
    · rename_i kvs e1
      obtain ⟨⟨qa, qs, qp, qd, ql⟩, q⟩ := (show okSort (kvs.map (·.1)) ∧ Q0 (.fr (sortD (kvs.map (·.1)))) from q)
      obtain ⟨v, rfl, r1⟩ := ress1 rs
      obtain ⟨p, rfl, hdc⟩ := r1.dct e1
      cases r with
      | cons ra rr =>
        cases ra
        cases rr
        have him := hdc.imms
        refine Calls.call_function_entry PyProof.Rows.kind_sorted PyProof.Rows.plain_sorted PyProof.Rows.entry_sorted (PyProof.Rows.args_sorted1 _) ?_
        unfold Builtin.«sorted»
        refine wpAny_bind (m := checkCount "sorted" 1 1 _) (wpAny_pure ?_)
        refine wpAny_bind (keys_row (A := X.A.in1) (I.ok.hd hc) I hdc fun h' tk acc ws hk rv rw_ hz => ?_)
        have I1 : Inv X pins σ H { s with heap := h', toks := tk } := I.kept hk
        have hws : ws.length = acc.toList.length := rv.length
        have hwk : ws.length = (kvs.map (·.1)).length := rw_.length
        rw [List.length_map] at hwk
        refine wpAny_bind (wpAny_newList ?_ (by omega))
        have hoL : (h'.push (seqObj "list" acc.toList.toArray 0)).get? h'.objs.size = some (seqObj "list" acc.toList.toArray 0) := Heap.get?_push_size _ rfl
        show wpAny _ _ _ _ _ { s with heap := h'.push (seqObj "list" acc.toList.toArray 0), toks := tk }
        have I2 : Inv X pins σ H { s with heap := h'.push (seqObj "list" acc.toList.toArray 0), toks := tk } := I.kept fun b o e => Heap.get?_push_of_some _ (hk b o e)
        have em : (ws.zip (kvs.map (·.1))).map Prod.snd = kvs.map (·.1) := List.map_snd_zip (by rw [List.length_map]; omega)
        have e := each_vals rw_ rv
        have hlz : (ws.zip (kvs.map (·.1))).length ≤ sizeLine := by rw [List.length_zip, List.length_map]; omega
        have er : EachIs (fun (u : Value) (b : V × D) => ∃ as, Reads (h'.push (seqObj "list" acc.toList.toArray 0)) u b.2 as ∧ h'.objs.size ∉ as) acc.toList (ws.zip (kvs.map (·.1))) := by
          have e0 := each_reads I2 rw_ rv qp
          refine (each_mem e0).mono fun u b ⟨⟨as, hr⟩, hb⟩ => ⟨as, hr, ?_⟩
          have hb2 : b.2 ∈ kvs.map (·.1) := (List.of_mem_zip hb).2
          rw [reads_imm hr (imm_mem him _ hb2)]
          exact List.not_mem_nil
        refine wpAny_bind (wpAny_holding (list_sort_data (s := { s with heap := h'.push (seqObj "list" acc.toList.toArray 0), toks := tk }) (R := fun (u : Value) (b : V × D) => RelV b.1 u ∧ Rep X.K P H b.1 b.2) (enc := fun b : V × D => b.2) hoL e er (by rw [show (fun b : V × D => b.2) = Prod.snd from rfl, em]; exact qa) (by rw [show (fun b : V × D => b.2) = Prod.snd from rfl, em]; exact qs) hlz
          (fun b hb => ?_) fun out ho1 ho2 => ?_))
        · have hb2 : b.2 ∈ kvs.map (·.1) := (List.of_mem_zip hb).2
          have h3 := depth_mem hb2
          have h4 : PyData.depthAll (kvs.map (·.1)) ≤ 60 := qd
          show X.A.units + 1 + 1 + b.2.depth < cLine
          omega
        · obtain ⟨v1, r3⟩ := vals_each ho2
          have es : ((ws.zip (kvs.map (·.1))).mergeSort (dataLe false fun b : V × D => b.2)).map Prod.snd = sortD (kvs.map (·.1)) := by
            have e3 := sort_maps (r := dataLe false fun b : V × D => b.2) (s := dataLe false fun d : D => d) Prod.snd (l := ws.zip (kvs.map (·.1))) (fun _ _ _ _ => rfl)
            rw [em] at e3
            exact e3
          obtain ⟨ep, he'⟩ := PyProof.Rows.sortedHeap_at (vs := acc.toList) (out := List.toArray out) hoL
          have hl2 : ((((ws.zip (kvs.map (·.1))).mergeSort (dataLe false fun b : V × D => b.2)).map Prod.fst).length) ≤ sizeLine := by rw [List.length_map, List.length_mergeSort]; exact hlz
          rw [es] at r3
          have hf := I1.hok.fresh (Nat.le_refl h'.objs.size)
          refine wpAny_pure ⟨_, rfl, .ref h'.objs.size, _, I1.laid (a := h'.objs.size) (o := .lst (((ws.zip (kvs.map (·.1))).mergeSort (dataLe false fun b : V × D => b.2)).map Prod.fst)) (t' := tk) (fun b u e => ?_) (Nat.le_refl _) ⟨hl2, out, ep, v1, by simpa using he'⟩, rfl, new_lst j r3 (k _ q) _ hf⟩
          have hb : b < h'.objs.size := Heap.lt_size e
          rw [PyProof.Rows.sortedHeap_old (Nat.ne_of_lt hb) (by rw [size_push']; exact Nat.lt_succ_of_lt hb)]
          exact Heap.get?_push_of_some _ e
    · exact q.elim
  · exact q.elim
end
end DL

namespace DL
open PySem PySem.Spec PyProof.Rows L2 PySem.W
/-! ### sorted(set(t)), t a tuple of ints -/
theorem vals_of_intsAre : ∀ {us : List Value} {ns : List Int}, IntsAre us ns → Vals (ns.map V.int) us := fun {us ns} h => by
  induction h with
  | nil => exact .nil
  | cons n t _ ih => exact .cons ⟨t, rfl⟩ ih
def sortSetK (Q : TV → Prop) (t : TV) : Prop := ∃ ns : List Int, t.data = some (.tuple (ns.map .int)) ∧ ns.length < 60 ∧ ∀ ys : List Int, ys.Pairwise (· < ·) → (∀ k, k ∈ ys ↔ k ∈ ns) → Q (.fr (ys.map .int))
def dSortSet (fe : FE) : FE := fun γ Q => fe γ (sortSetK Q)
@[simp] theorem ev_sortSet {fe : FE} {γ : Gam} {Q : TV → Prop} : dSortSet fe γ Q = fe γ (sortSetK Q) := (rfl)
theorem sortSetK_t {ns : List Int} {Q : TV → Prop} (h : ns.length < 60) (q : ∀ ys : List Int, ys.Pairwise (· < ·) → (∀ k, k ∈ ys ↔ k ∈ ns) → Q (.fr (ys.map .int))) : sortSetK Q (.pl (.d (.tuple (ns.map .int)))) := ⟨ns, rfl, h, q⟩
theorem reps_ints {K : PySem.W.Frag} {P : Pd} {H : Hp} : ∀ ys : List Int, Reps K P H (ys.map V.int) (ys.map .int)
  | [] => .nil
  | y :: ys => .cons (.int y) (reps_ints ys)
section
variable {X : Cx} {hv : Hv} {a : Expr} {fe : FE} {p p2 q pos : Pos}
theorem de_sortSet (hc : X.calm = true) (hm : X.mg "sorted" = none) (hm2 : X.mg "set" = none) (ha : DE hv X a fe) (hg : Gl X "sorted" := by rfl) (hg2 : Gl X "set" := by rfl)
    (na : starEach [a] X.env = (false, eval a X.env) :: starEach [] X.env := by rfl) : DE hv X (.Call (.Name "sorted" p) [.Call (.Name "set" p2) [a] [] q] [] pos) (dSortSet fe) := by
  refine ⟨fun pins s σ H Q I ⟨γ, hd, P, Q0, S, f, kk⟩ => ?_⟩
  refine Call_ (ld_blt I hg hm boot_sorted ?_)
  refine PyProof.Rows.callWith_builtin1 (PyProof.Rows.args_cons ?_ rfl) rfl rfl
  refine Call_ (ld_blt I hg2 hm2 PyProof.Rows.boot_set ?_)
  refine PyProof.Rows.callWith_type1 (PyProof.Rows.args_cons (thn (ha.run pins s σ H (fun x H1 => ∃ t hd1 P1, sortSetK Q0 t ∧ Grow ⟨X.K, hv⟩ hd P H hd1 P1 H1 ∧ Res ⟨X.K, hv⟩ hd1 P1 H H1 x t) I ⟨γ, hd, P, _, S, f, fun t q v hd1 P1 H1 g1 r1 => ⟨t, hd1, P1, q, g1, r1⟩⟩) fun v s1 ⟨x, H1, I1, r1, t, hd1, P1, ⟨ns, et, hn, qq⟩, g1, rr⟩ => PyProof.Rows.args_nil ?_) na) na rfl
  obtain ⟨l, vs, rfl, h1, q1⟩ := rr.tup et
  obtain rfl : v = Value.ref l := r1
  rw [Reps.intsOf q1] at h1
  obtain ⟨its, rv, pl, hz⟩ := I1.tuple (SqT.of h1)
  have hsc : (60 : Nat) + 1 < scanBound := by unfold scanBound; omega
  refine call_set_tupI (P := X.prog) (w := X.w) ns (I1.ok.hd hc) pl (by simpa using rv.ints) (by omega) fun h' tk c R hcn hk => ?_
  refine PyProof.Rows.args_nil ?_
  refine sorted_set (P := X.prog) R (I1.ok.hd hc) (by omega) fun s' p0 out cc ys k1 g o hp hgo hint hpw hmem hlen => ?_
  have I2 : Inv X pins σ H1 { s1 with heap := h', toks := tk } := I1.kept hk
  generalize hs2 : ({ s1 with heap := h', toks := tk } : Shared) = s2 at I2 k1 g o hp
  have hn0 : H1 p0 = none := I2.hok.fresh hp
  have hv0 : Vals (ys.map V.int) out.toList := vals_of_intsAre hint
  have hl0 : (ys.map V.int).length ≤ sizeLine := by rw [List.length_map, sizeLine_eq]; omega
  have J0 : Inv X pins σ (L2.upd H1 p0 (.lst (ys.map V.int))) { s2 with heap := s'.heap, gens := s'.gens, drawn := s'.drawn, toks := s'.toks } :=
    I2.call (ch := []) (Un.laid k1 hp hn0) (I2.hok.laid k1 hp ⟨hl0, out.toList, cc, hv0, hgo⟩) (by rw [g]; exact I2.bare) (fun _ z => nomatch z)
  have e : s' = { s2 with heap := s'.heap, gens := s'.gens, drawn := s'.drawn, toks := s'.toks } := by
    cases s'
    cases s2
    cases o
    rfl
  rw [e]
  exact ⟨.ref p0, _, J0, rfl, new_lst g1.j (reps_ints ys) (fun v P' H' g2 r => kk _ (qq ys hpw fun k => by rw [hmem]; exact decide_eq_true_iff) v hd1 P' H' (g1.trans S.j g2) (r.start fun a h => g1.free S.j h)) p0 hn0⟩
end
end DL

namespace DL
open PySem PySem.Spec PyProof.Rows L2 PySem.W
/-! ### len(set(xs)), xs a list of tuples of ints -/
theorem reps_tups {K : PySem.W.Frag} {P : Pd} {H : Hp} : ∀ {vs : List V} {ks : List (List Int)}, Reps K P H vs (ks.map fun k => PyData.tuple (k.map .int)) → ∃ kas : List (Addr × List Int), vs = (kas.map fun p => V.ref p.1) ∧ kas.map (·.2) = ks ∧ ∀ p ∈ kas, H p.1 = some (.tup (p.2.map V.int))
  | _, [], h => by cases h; exact ⟨[], rfl, rfl, fun _ h => by cases h⟩
  | _, k :: ks, h => by
    cases h with
    | cons r rs =>
      obtain ⟨kas, rfl, e2, h2⟩ := reps_tups rs
      cases r with
      | tup h1 q1 =>
        rw [Reps.intsOf q1] at h1
        refine ⟨(_, k) :: kas, rfl, by rw [List.map_cons, e2], fun p hp => ?_⟩
        rcases List.mem_cons.mp hp with rfl | hp
        · exact h1
        · exact h2 p hp
def lenSetK (Q : TV → Prop) (t : TV) : Prop := ∃ ks : List (List Int), t.data = some (.list (ks.map fun k => PyData.tuple (k.map .int))) ∧ ks.length < 64 ∧ ∀ L : List (List Int), L.Nodup → (∀ k, k ∈ L ↔ k ∈ ks) → Q (iv (L.length : Nat))
def dLenSet (fe : FE) : FE := fun γ Q => fe γ (lenSetK Q)
@[simp] theorem ev_lenSet {fe : FE} {γ : Gam} {Q : TV → Prop} : dLenSet fe γ Q = fe γ (lenSetK Q) := (rfl)
section
variable {X : Cx} {hv : Hv} {a : Expr} {fe : FE} {p p2 q pos : Pos}
theorem de_lenSet (hc : X.calm = true) (hu : X.A.units + 64 < cLine) (hm : X.mg "len" = none) (hm2 : X.mg "set" = none) (ha : DE hv X a fe) (hg : Gl X "len" := by rfl) (hg2 : Gl X "set" := by rfl)
    (na : starEach [a] X.env = (false, eval a X.env) :: starEach [] X.env := by rfl) : DE hv X (.Call (.Name "len" p) [.Call (.Name "set" p2) [a] [] q] [] pos) (dLenSet fe) := by
  refine ⟨fun pins s σ H Q I ⟨γ, hd, P, Q0, S, f, kk⟩ => ?_⟩
  refine Call_ (ld_blt I hg hm boot_len ?_)
  refine PyProof.Rows.callWith_builtin1 (PyProof.Rows.args_cons ?_ rfl) rfl rfl
  refine Call_ (ld_blt I hg2 hm2 PyProof.Rows.boot_set ?_)
  refine PyProof.Rows.callWith_type1 (PyProof.Rows.args_cons (thn (ha.run pins s σ H (fun x H1 => ∃ t hd1 P1, lenSetK Q0 t ∧ Grow ⟨X.K, hv⟩ hd P H hd1 P1 H1 ∧ Res ⟨X.K, hv⟩ hd1 P1 H H1 x t) I ⟨γ, hd, P, _, S, f, fun t q v hd1 P1 H1 g1 r1 => ⟨t, hd1, P1, q, g1, r1⟩⟩) fun v s1 ⟨x, H1, I1, r1, t, hd1, P1, ⟨ks, et, hn, qq⟩, g1, rr⟩ => PyProof.Rows.args_nil ?_) na) na rfl
  obtain ⟨l, vs, rfl, h1, q1⟩ := rr.lst et
  obtain rfl : v = Value.ref l := r1
  obtain ⟨kas, rfl, e2, h2⟩ := reps_tups q1
  obtain ⟨its, rv, pl, hz⟩ := I1.list (SqL.of h1)
  have hkl : kas.length = ks.length := by rw [← e2, List.length_map]
  refine call_set_tups (P := X.prog) (w := X.w) kas (I1.ok.hd hc) pl.isList (by simpa using refs_of_vals rv) (fun p hp => I1.isT (SqT.of (h2 p hp))) (by omega) (by omega) fun h' tk L es ep tb R g hk => ?_
  refine PyProof.Rows.args_nil ?_
  obtain ⟨o, ho, hex, hd'⟩ := R.ob
  have hsz : es.size = L.length := by
    have h := congrArg List.length R.rows
    unfold L2.rowsOf at h
    rw [Array.length_toList, List.length_map] at h
    exact h
  have I2 : Inv X pins σ H1 { s1 with heap := h', toks := tk } := I1.kept hk
  have hL := qq (L.map (·.2)) R.nd fun k => ⟨fun h => by
    obtain ⟨p, hp, rfl⟩ := List.mem_map.mp h
    rw [← e2]
    exact List.mem_map.mpr ⟨p, List.mem_of_mem_take (g.sub p hp), rfl⟩, fun h => by
    rw [← e2] at h
    obtain ⟨p, hp, rfl⟩ := List.mem_map.mp h
    exact g.all p (by rw [List.take_length]; exact hp)⟩
  have hfew := R.few
  refine call_len_set ho hex hd' (SetTR.fits (s := { s1 with heap := h', toks := tk }) R) (by omega) ⟨.int (L.length : Nat), H1, I2.tok _, ⟨_, by rw [hsz]⟩, ?_⟩
  rw [List.length_map] at hL
  exact kk _ hL _ hd1 P1 H1 g1 (Rep.int _)
end
end DL

namespace DL
open PySem PySem.Spec PyProof.Rows L2 PySem.W
/-! ### tuples of ints: order, min, max -/
def ltL : List Int → List Int → Bool
  | a :: as, b :: bs => if a = b then ltL as bs else decide (a < b)
  | [], _ :: _ => true
  | _, [] => false
theorem ltL_irr : ∀ a : List Int, ltL a a = false
  | [] => rfl
  | a :: as => by rw [ltL, if_pos rfl, ltL_irr as]
theorem ltL_asym : ∀ {a b : List Int}, ltL a b = true → ltL b a = false
  | [], _ :: _, _ => rfl
  | a :: as, b :: bs, h => by
    rw [ltL] at h ⊢
    by_cases e : a = b
    · rw [if_pos e] at h
      rw [if_pos e.symm, ltL_asym h]
    · rw [if_neg e] at h
      rw [if_neg fun z => e z.symm]
      have := of_decide_eq_true h
      exact decide_eq_false (by omega)
theorem dataLt_lens : ∀ {a b : List Int}, a.length = b.length → lexLt itemOrd (keyToksAll (a.map dI)) (keyToksAll (b.map dI)) = ltL a b
  | [], [], _ => by decide +kernel
  | [], _ :: _, h => by cases h
  | _ :: _, [], h => by cases h
  | x :: a, y :: b, h => by
    rw [List.map_cons, List.map_cons, ltL]
    by_cases e : x = y
    · rw [if_pos e, dataLt_all_yes (by simp [alike]) (by rw [eqv_ii]; exact decide_eq_true e)]
      exact dataLt_lens (by simpa using h)
    · rw [if_neg e, dataLt_all_no (by simp [alike]) (by rw [eqv_ii]; exact decide_eq_false e), dataLt_int]
theorem minD_eq {g : D} : ∀ {xs : List D} {x : D}, g ∈ x :: xs → (∀ y ∈ x :: xs, dataLt y g = false) → (∀ y ∈ x :: xs, y ≠ g → dataLt g y = true) → minD x xs = g
  | [], x, h, _, _ => (List.mem_singleton.mp h).symm
  | y :: xs, x, h, h1, h2 => by
    show minD (if dataLt y x = true then y else x) xs = g
    have h1' : ∀ z ∈ x :: xs, dataLt z g = false := fun z hz => h1 z (by rcases List.mem_cons.mp hz with e | e; exact e ▸ List.mem_cons_self ..; exact List.mem_cons_of_mem _ (List.mem_cons_of_mem _ e))
    have h2' : ∀ z ∈ x :: xs, z ≠ g → dataLt g z = true := fun z hz => h2 z (by rcases List.mem_cons.mp hz with e | e; exact e ▸ List.mem_cons_self ..; exact List.mem_cons_of_mem _ (List.mem_cons_of_mem _ e))
    have h1'' : ∀ z ∈ y :: xs, dataLt z g = false := fun z hz => h1 z (List.mem_cons_of_mem _ hz)
    have h2'' : ∀ z ∈ y :: xs, z ≠ g → dataLt g z = true := fun z hz => h2 z (List.mem_cons_of_mem _ hz)
    by_cases hx : x = g
    · have : dataLt y x = false := by rw [hx]; exact h1 y (by simp)
      rw [this, if_neg (by decide)]
      exact minD_eq (by rw [hx]; exact List.mem_cons_self ..) h1' h2'
    · by_cases hy : y = g
      · have : dataLt y x = true := by rw [hy]; exact h2 x (List.mem_cons_self ..) hx
        rw [this, if_pos rfl]
        exact minD_eq (by rw [hy]; exact List.mem_cons_self ..) h1'' h2''
      · have hg : g ∈ xs := by
          rcases List.mem_cons.mp h with e | e
          · exact absurd e.symm hx
          · rcases List.mem_cons.mp e with e | e
            · exact absurd e.symm hy
            · exact e
        split
        · exact minD_eq (List.mem_cons_of_mem _ hg) h1'' h2''
        · exact minD_eq (List.mem_cons_of_mem _ hg) h1' h2'
theorem alike_ints : ∀ a b : List Int, alikeAll (a.map dI) (b.map dI) = true
  | [], _ => by simp [alikeAll]
  | _ :: _, [] => by simp [alikeAll]
  | _ :: a, _ :: b => by
    rw [List.map_cons, List.map_cons, alikeAll, alike_ints a b]
    simp [alike]
def iTD (a : List Int) : D := dT (a.map dI)
theorem iTD_depth (a : List Int) : (iTD a).depth ≤ 1 := by
  have := depthAll_of (ds := a.map dI) (n := 0) fun d hd => by
    obtain ⟨i, _, rfl⟩ := List.mem_map.mp hd
    simp
  simp [iTD, PyData.depth]
  omega
theorem okMM_tups (L : List (List Int)) : okMM (L.map iTD) := by
  refine ⟨⟨fun x hx y hy => ?_, fun x hx => ?_⟩, ?_, ?_⟩
  · obtain ⟨a, _, rfl⟩ := List.mem_map.mp hx
    obtain ⟨b, _, rfl⟩ := List.mem_map.mp hy
    show alike (.tuple _) (.tuple _) = true
    rw [alike]
    exact alike_ints a b
  · obtain ⟨a, _, rfl⟩ := List.mem_map.mp hx
    intro z
    cases z
  · exact plainAll_of fun d hd => by
      obtain ⟨a, _, rfl⟩ := List.mem_map.mp hd
      unfold iTD
      rw [plain_t]
      exact plain_ints a
  · exact Nat.le_trans (depthAll_of fun d hd => by
      obtain ⟨a, _, rfl⟩ := List.mem_map.mp hd
      exact iTD_depth a) (by decide : 1 ≤ 60)
theorem iTD_inj {a b : List Int} (h : iTD a = iTD b) : a = b := by
  have h2 : a.map dI = b.map dI := by injection h
  clear h
  induction a generalizing b with
  | nil => cases b with
    | nil => rfl
    | cons _ _ => cases h2
  | cons x r ih => cases b with
    | nil => cases h2
    | cons y s =>
      rw [List.map_cons, List.map_cons] at h2
      injection h2 with e1 e2
      injection e1 with e1
      rw [e1, ih e2]
theorem gMin_T {x : TV} {L : List (List Int)} {g : List Int} {Q : TV → Prop} (hx : x.data = some (.list (L.map iTD))) (hg : g ∈ L) (hl : ∀ l ∈ L, l.length = g.length) (h1 : ∀ l ∈ L, l ≠ g → ltL g l = true) (q : Q (.pl (.d (iTD g)))) : gMin [x] Q := by
  have lt_ : ∀ a b : List Int, a.length = b.length → dataLt (iTD a) (iTD b) = ltL a b := fun a b e => by
    unfold iTD
    rw [dataLt_tuple]
    exact dataLt_lens e
  cases L with
  | nil => cases hg
  | cons a L =>
    unfold gMin
    simp only [hx, List.map_cons]
    refine ⟨okMM_tups (a :: L), ?_⟩
    have e : minD (iTD a) (L.map iTD) = iTD g := by
      refine minD_eq (by rw [← List.map_cons]; exact List.mem_map.mpr ⟨g, hg, rfl⟩) (fun y hy => ?_) fun y hy hn => ?_
      · rw [← List.map_cons] at hy
        obtain ⟨l, hl', rfl⟩ := List.mem_map.mp hy
        rw [lt_ l g (hl l hl')]
        by_cases e : l = g
        · rw [e, ltL_irr]
        · exact ltL_asym (h1 l hl' e)
      · rw [← List.map_cons] at hy
        obtain ⟨l, hl', rfl⟩ := List.mem_map.mp hy
        rw [lt_ g l (hl l hl').symm]
        exact h1 l hl' fun z => hn (by rw [z])
    rw [e]
    exact q
theorem gAny_ofB {x : TV} {ds : List D} {bs : List Bool} {Q : TV → Prop} (hx : x.data = some (.list ds)) (e : ds = bs.map .bool) (h : Q (.pl (.d (.bool (bs.any id))))) : gAny [x] Q := gAny_of hx e h
end DL

namespace DL
open PySem PySem.Spec PyProof.Rows L2 PySem.W
/-! ### small lemmas that many laws use -/
theorem cut_len {α : Type} (xs : List α) (lo hi : Option Int) : (cutG xs lo hi).length ≤ xs.length := by
  unfold cutG
  rw [List.length_take, List.length_drop]
  omega
theorem cut_mem {α : Type} {xs : List α} {lo hi : Option Int} {x : α} (h : x ∈ cutG xs lo hi) : x ∈ xs := List.mem_of_mem_drop (List.mem_of_mem_take h)
def elOk (d : D) : Prop := rOk 3 d = true ∧ d.weight ≤ 100
theorem el_int {i : Int} (h : i.natAbs < 10 ^ 12) : elOk (dI i) := ⟨by rw [rOk_i]; exact decide_eq_true h, Nat.le_trans (weight_i h) (by decide)⟩
theorem thing_t {ds : List D} (h : ∀ d ∈ ds, elOk d) (hl : ds.length ≤ 100) : thingOk (dT ds) := by
  refine .inr ⟨?_, ?_⟩
  · rw [rOk_t, List.all_eq_true]
    exact fun d hd => rOk_mono (by decide) (h d hd).1
  · rw [weight_t]
    have := weightAll_le (ds := ds) (n := 100) fun d hd => (h d hd).2
    have h2 : ds.length * (100 + 1) ≤ 100 * 101 := Nat.mul_le_mul hl (Nat.le_refl _)
    omega
theorem thing_l {ds : List D} (h : ∀ d ∈ ds, elOk d) (hl : ds.length ≤ 100) : thingOk (dL ds) := by
  refine .inr ⟨?_, ?_⟩
  · rw [rOk_l, List.all_eq_true]
    exact fun d hd => rOk_mono (by decide) (h d hd).1
  · rw [weight_l]
    have := weightAll_le (ds := ds) (n := 100) fun d hd => (h d hd).2
    have h2 : ds.length * (100 + 1) ≤ 100 * 101 := Nat.mul_le_mul hl (Nat.le_refl _)
    omega
theorem thing_e {d : D} (h : elOk d) : thingOk d := .inr ⟨rOk_mono (by decide) h.1, by have := h.2; omega⟩
theorem wlen : ∀ ds : List D, ds.length ≤ PyData.weightAll ds
  | [] => Nat.zero_le _
  | d :: ds => by
    have := wlen ds
    rw [weightAll_cons, List.length_cons]
    omega
theorem thing_len {ds : List D} (h : thingOk (.tuple ds)) : ds.length ≤ 100000 := by
  rcases h with h | ⟨_, h⟩
  · cases h
  · rw [weight_t] at h
    have := wlen ds
    omega
def dK (ks : List Int) : List (D × D) := ks.map fun k => (dI k, .bool true)
theorem dK_any {ks : List Int} {k : Int} : ((dK ks).any fun q => PyData.eqv q.1 (dI k)) = decide (k ∈ ks) := by
  unfold dK
  induction ks with
  | nil => rfl
  | cons a r ih =>
    rw [List.map_cons, List.any_cons, ih, eqv_ii]
    by_cases h : k = a
    · subst h; simp
    · have : ¬ a = k := fun z => h z.symm
      simp [h, this]
theorem dK_put {ks : List Int} {k : Int} : putD (dK ks) (dI k) (.bool true) = dK (if k ∈ ks then ks else ks ++ [k]) := by
  unfold putD
  rw [dK_any]
  by_cases h : k ∈ ks
  · rw [if_pos (decide_eq_true h), if_pos h]
    unfold dK
    rw [List.map_map]
    refine List.map_congr_left fun a _ => ?_
    show (if PyData.eqv (dI a) (dI k) = true then _ else _) = _
    split <;> rfl
  · rw [if_neg (by simpa using h), if_neg h]
    unfold dK
    rw [List.map_append]
    rfl
theorem dK_all {ks : List Int} : allIT (dK ks) false = true := by
  unfold allIT dK
  rw [List.all_map]
  exact List.all_eq_true.mpr fun _ _ => rfl
theorem setT_dK {i : Nat} {k : Int} {γ : Gam} {ks : List Int} (h : γ[i]? = some (.od (dK ks))) (hl : ks.length < 1000) : setT i (.bool true) (.int k) γ = some (γ.set i (.od (dK (if k ∈ ks then ks else ks ++ [k])))) := by
  unfold setT
  rw [h]
  have : (dK ks).length < sizeLine := by
    unfold dK
    rw [List.length_map, sizeLine_eq]
    omega
  exact (if_pos ⟨rfl, .inr dK_all, this⟩).trans (by rw [dK_put])
theorem all_map' {α : Type} (f : α → Bool) (xs : List α) : (xs.map f).all id = xs.all f := by
  rw [List.all_map]
  rfl
theorem any_map' {α : Type} (f : α → Bool) (xs : List α) : (xs.map f).any id = xs.any f := by
  rw [List.any_map]
  rfl
theorem bad_false {b : Bool} (h : ¬ b = true) : b = false := by cases b with | false => rfl | true => exact absurd rfl h
theorem nodup_len {α : Type} [DecidableEq α] : ∀ {ys zs : List α}, ys.Nodup → (∀ y ∈ ys, y ∈ zs) → ys.length ≤ zs.length
  | [], _, _, _ => Nat.zero_le _
  | y :: ys, zs, hn, h => by
    have hy := h y (List.mem_cons_self ..)
    have hn' := List.nodup_cons.mp hn
    have := nodup_len (ys := ys) (zs := zs.erase y) hn'.2 fun z hz => (List.mem_erase_of_ne fun e => hn'.1 (by rw [← e]; exact hz)).mpr (h z (List.mem_cons_of_mem _ hz))
    rw [List.length_erase_of_mem hy] at this
    have h0 : 0 < zs.length := List.length_pos_of_mem hy
    rw [List.length_cons]
    omega
/-- repr can write it: k deep, weight n -/
def rW (k n : Nat) (d : D) : Prop := rOk k d = true ∧ d.weight ≤ n
theorem rW_i {i : Int} (h : i.natAbs < 10 ^ 12) : rW 1 40 (dI i) := ⟨by rw [rOk_i]; exact decide_eq_true h, weight_i h⟩
theorem rW_t {k n m : Nat} {ds : List D} (h : ∀ d ∈ ds, rW k n d) (hl : ds.length ≤ m) : rW (k + 1) (m * (n + 1)) (dT ds) := ⟨by
  rw [rOk_t, List.all_eq_true]
  exact fun d hd => (h d hd).1, by
  rw [weight_t]
  exact Nat.le_trans (weightAll_le fun d hd => (h d hd).2) (Nat.mul_le_mul_right _ hl)⟩
theorem rW_l {k n m : Nat} {ds : List D} (h : ∀ d ∈ ds, rW k n d) (hl : ds.length ≤ m) : rW (k + 1) (m * (n + 1)) (dL ds) := ⟨by
  rw [rOk_l, List.all_eq_true]
  exact fun d hd => (h d hd).1, by
  rw [weight_l]
  exact Nat.le_trans (weightAll_le fun d hd => (h d hd).2) (Nat.mul_le_mul_right _ hl)⟩
theorem rW_up {k j n m : Nat} {d : D} (h : rW k n d) (hk : k ≤ j) (hn : n ≤ m) : rW j m d := ⟨rOk_mono hk h.1, Nat.le_trans h.2 hn⟩
theorem rW_iT {xs : List Int} {m : Nat} (h : ∀ x ∈ xs, x.natAbs < 10 ^ 12) (hl : xs.length ≤ m) : rW 2 (m * 41) (iTD xs) := rW_t (fun d hd => by
  obtain ⟨x, hx, rfl⟩ := List.mem_map.mp hd
  exact rW_i (h x hx)) (by rw [List.length_map]; exact hl)
theorem rW_ok {k n : Nat} {d : D} (h : rW k n d) (hk : k ≤ 60) (hn : n ≤ 2 ^ 20) : okRepr d = true := okRepr_of h.1 hk (Nat.le_trans h.2 hn)
end DL

namespace DL
open PySem PySem.Spec PyProof.Rows L2 PySem.W
/-! ### text * int -/
def repS (x : Str) (n : Nat) : Str := ⟨((List.replicate n x.cps.toList).flatten).toArray⟩
def mulS (x y : TV) : Option TV := match x.data, y.data with
  | some (.str z), some (.int k) => if -1000 ≤ k ∧ k ≤ 1000 ∧ z.length ≤ 1000 then some (pd (.str (repS z k.toNat))) else none
  | _, _ => none
theorem foldA {a : Array Nat} : ∀ (n : Nat) (acc : Array Nat), (List.replicate n a).foldl (· ++ ·) acc = (acc.toList ++ (List.replicate n a.toList).flatten).toArray
  | 0, acc => by simp
  | n + 1, acc => by
    rw [List.replicate_succ, List.foldl_cons, foldA n, List.replicate_succ, List.flatten_cons]
    simp
theorem repS_fold {z : Str} {n : Nat} : (⟨(List.replicate n z.cps).foldl (· ++ ·) #[]⟩ : Str) = repS z n := by
  rw [foldA]
  simp [repS]
theorem repS_len {z : Str} {n : Nat} : (repS z n).length = n * z.length := by
  simp [repS, Str.length]
theorem repS_1 {z : Str} : repS z 1 = z := by
  simp [repS]
theorem repS_e {z : Str} {n : Nat} (h : z.length = 0) : repS z n = z := by
  have e : z.cps = #[] := by
    have h' : z.cps.size = 0 := h
    exact Array.eq_empty_of_size_eq_zero h'
  have : z = ⟨#[]⟩ := by cases z; simp at e; rw [e]
  rw [this]
  simp [repS]
theorem od_mulS {X : Cx} {hv : Hv} : OpD hv X (binaryOp .Mult) mulS := by
  intro pins s σ H x y v u Q I rx ry ⟨hd, P, H0, tx, ty, t, j, r1, r2, e, k⟩
  unfold mulS at e
  split at e
  · rename_i z m e1 e2
    have h1 := r1.str e1
    have h2 := r2.int e2
    subst h1 h2
    split at e
    · rename_i hz
      cases e
      obtain ⟨t1, rfl⟩ := rx
      obtain ⟨t2, rfl⟩ := ry
      have hmul : 1 ≤ m → z.length * m.toNat ≤ 1000000 := fun h => by
        have : m.toNat ≤ 1000 := by omega
        have h3 := Nat.mul_le_mul hz.2.2 this
        omega
      refine PySem.P.mul_str (by
        have a1 : ¬ m < -(2 ^ 63 : Int) := by omega
        have a2 : ¬ m ≥ 2 ^ 63 := by omega
        rw [decide_eq_false a1, decide_eq_false a2]; rfl) (fun h1 _ => ?_) (fun h1 _ => ?_) ?_
      · have : (1000 : Int) ≤ (2 ^ 63 - 1) / m := by
          refine Int.le_ediv_of_mul_le (by omega) ?_
          omega
        omega
      · have := hmul (by omega)
        unfold Builtin.Str.tooLong
        rw [sizeLine_eq]
        exact decide_eq_false (by omega)
      · by_cases c1 : m < 1
        · rw [if_pos c1]
          have e0 : repS z m.toNat = Str.empty := by
            rw [show m.toNat = 0 by omega]
            rfl
          rw [e0] at k
          exact ⟨by decide, ⟨.str Str.empty, H, I.tok _, ⟨_, rfl⟩, k _ P H j.refl (Rep.str _)⟩⟩
        · rw [if_neg c1]
          by_cases c2 : (m == 1 || z.length == 0) = true
          · rw [if_pos c2]
            have e0 : repS z m.toNat = z := by
              rw [Bool.or_eq_true] at c2
              rcases c2 with c2 | c2
              · rw [eq_of_beq c2]
                exact repS_1
              · exact repS_e (eq_of_beq c2)
            rw [e0] at k
            exact ⟨.str z, H, I, ⟨_, rfl⟩, k _ P H j.refl (Rep.str _)⟩
          · rw [if_neg c2, repS_fold]
            have := hmul (by omega)
            refine ⟨by rw [repS_len, sizeLine_eq, Nat.mul_comm]; omega, ⟨.str _, H, I.tok _, ⟨_, rfl⟩, k _ P H j.refl (Rep.str _)⟩⟩
    · cases e
  · cases e
end DL

namespace DL
open PySem PySem.Spec PyProof.Rows L2 PySem.W
/-! ### texts, as lists of code points -/
def tx (l : List Nat) : Str := ⟨l.toArray⟩
@[simp] theorem tx_len {l : List Nat} : (tx l).length = l.length := by simp [tx, Str.length]
theorem tx_inj {a b : List Nat} (h : tx a = tx b) : a = b := congrArg (fun x : Str => x.cps.toList) h
@[simp] theorem tx_eq {a b : List Nat} : (tx a = tx b) = (a = b) := propext ⟨tx_inj, fun h => by rw [h]⟩
@[simp] theorem tx_cps {l : List Nat} : (tx l).cps.toList = l := by simp [tx]
theorem tx_add {a b : List Nat} : tx a ++ tx b = tx (a ++ b) := TL.ext_tl (TL.tl_append (tx a) (tx b))
@[simp] theorem signs_tx {l : List Nat} : signs (tx l) = l.map fun c => .str (tx [c]) := by
  unfold signs
  rw [tx_cps]
  rfl
theorem idx_tx {l : List Nat} {i : Int} (h : l.length ≤ 100000) : idxT (.pl (.d (.str (tx l)))) (.pl (.d (.int i))) = (atI l i).map fun c => .pl (.d (.str (tx [c]))) := by
  unfold idxT
  refine (if_pos (big _ (by rw [tx_len]; exact h))).trans ?_
  rw [tx_cps]
  rfl
theorem slc_tx {l : List Nat} {lo hi : Option Int} (h : l.length ≤ 100000) : slcT (.pl (.d (.str (tx l)))) lo hi = some (.pl (.d (.str (tx (cutG l lo hi))))) := by
  unfold slcT
  refine (if_pos (big _ (by rw [tx_len]; exact h))).trans ?_
  unfold cutS cutG
  rw [tx_cps, tx_len]
  rfl
theorem add_tx {a b : List Nat} (h : a.length + b.length ≤ 100000) : addT (.pl (.d (.str (tx a)))) (.pl (.d (.str (tx b)))) = some (.pl (.d (.str (tx (a ++ b))))) := by
  unfold addT
  refine (if_pos (big _ (by rw [tx_len, tx_len]; exact h))).trans ?_
  rw [tx_add]
theorem rev_tx {l : List Nat} (h : l.length ≤ 100000) : revT (.pl (.d (.str (tx l)))) = some (.pl (.d (.str (tx l.reverse)))) := by
  unfold revT
  refine (if_pos (big _ (by rw [tx_len]; exact h))).trans ?_
  unfold revS
  rw [tx_cps]
  rfl
theorem mul_tx {l : List Nat} {k : Int} (h0 : -1000 ≤ k) (h1 : k ≤ 1000) (h : l.length ≤ 1000) : mulS (.pl (.d (.str (tx l)))) (.pl (.d (.int k))) = some (.pl (.d (.str (tx (List.replicate k.toNat l).flatten)))) := by
  unfold mulS
  refine (if_pos ⟨h0, h1, by rw [tx_len]; exact h⟩).trans ?_
  unfold repS
  rw [tx_cps]
  rfl
theorem occ_count {x : Str} {c : Nat} {lim : Nat} : ∀ (n k : Nat) (st : Array Nat × Nat), st.2 ≤ k → st.1.size + n ≤ lim → (forIn (List.range' k n) st (StrLaws.occBody x ⟨#[c]⟩ x.length lim)).run.fst.toList.length = st.1.size + (((x.cps.toList.drop k).take n).countP fun d => d == c)
  | 0, k, st, _, _ => by simp
  | n + 1, k, st, h1, h2 => by
    rw [List.range'_succ, List.forIn_cons]
    unfold StrLaws.occBody
    have hd : (x.cps.toList.drop k).take (n + 1) = match x.cps.toList[k]? with | some d => d :: (x.cps.toList.drop (k + 1)).take n | none => [] := by
      cases hk : x.cps.toList[k]? with
      | none =>
        have := List.getElem?_eq_none_iff.mp hk
        rw [List.drop_eq_nil_of_le this]
        rfl
      | some d =>
        obtain ⟨hlt, he⟩ := List.getElem?_eq_some_iff.mp hk
        rw [List.drop_eq_getElem_cons hlt, he, List.take_succ_cons]
    by_cases hc : x.cps.toList[k]? = some c
    · have hs := (StrLaws.subAt_one x c k).mpr hc
      rw [if_pos ⟨⟨⟨by omega, h1⟩, hs.1⟩, hs.2⟩]
      have ih := occ_count (x := x) (c := c) (lim := lim) n (k + 1) (st.1.push k, k + (⟨#[c]⟩ : Str).length) (Nat.le_refl _) (by simp; omega)
      rw [hd, hc]
      refine Eq.trans ih ?_
      simp
      omega
    · have hs : ¬ (((st.1.size < lim ∧ st.2 ≤ k) ∧ k + (⟨#[c]⟩ : Str).length ≤ x.length) ∧ Builtin.Str.subAt x ⟨#[c]⟩ k = true) := fun h => hc ((StrLaws.subAt_one x c k).mp ⟨h.1.2, h.2⟩)
      rw [if_neg hs]
      have ih := occ_count (x := x) (c := c) (lim := lim) n (k + 1) (st.1, st.2) (by simp; omega) (by simp; omega)
      refine Eq.trans ih ?_
      rw [hd]
      cases hk : x.cps.toList[k]? with
      | none =>
        have := List.getElem?_eq_none_iff.mp hk
        rw [List.drop_eq_nil_of_le (by omega)]
        simp
      | some d =>
        have : d ≠ c := fun z => hc (by rw [hk, z])
        simp [this]
theorem count_tx {l : List Nat} {c : Nat} : Txt.count (tx l) (tx [c]) = ((l.countP fun d => d == c : Nat) : Int) := by
  unfold Txt.count
  rw [StrLaws.occ_eq]
  have := occ_count (x := tx l) (c := c) (lim := (tx l).length + 1) ((tx l).length + 1) 0 (#[], 0) (Nat.le_refl _) (by simp)
  rw [tx_cps, List.drop_zero, List.take_of_length_le (by simp)] at this
  show ((List.length _ : Nat) : Int) = _
  refine congrArg _ (Eq.trans this ?_)
  simp
@[simp] theorem gCountS_tx {l : List Nat} {c : Nat} {Q : TV → Prop} : gCountS (.pl (.d (.str (tx l)))) (.pl (.d (.str (tx [c])))) Q = Q (.pl (.d (.int (l.countP fun d => d == c : Nat)))) := by
  show Q (iv (Txt.count (tx l) (tx [c]))) = _
  rw [count_tx]
  rfl
theorem joinL_nil : ∀ ls : List (List Nat), TL.joinL [] ls = ls.flatten
  | [] => rfl
  | [a] => by simp [TL.joinL]
  | a :: b :: r => by
    rw [TL.joinL, joinL_nil (b :: r)]
    simp
theorem join_tx {ls : List (List Nat)} : Txt.join (tx []) (ls.map tx) = tx ls.flatten := by
  rw [← joinL_nil]
  have e := TL.tl_join (tx []) (ls.map tx)
  have e2 : (ls.map tx).map TL.tl = ls := by
    rw [List.map_map]
    refine Eq.trans (List.map_congr_left fun l _ => ?_) (List.map_id _)
    exact tx_cps
  rw [e2] at e
  exact TL.ext_tl ((congrArg TL.tl (TL.join_eq (tx []) (ls.map tx))).trans e)
theorem gJoin_tx {x y : TV} {ls : List (List Nat)} {Q : TV → Prop} (hx : x.data = some (.str (tx []))) (hy : y.data = some (.list (ls.map fun l => .str (tx l)))) (h : ls.flatten.length ≤ 1000000) (q : Q (.pl (.d (.str (tx ls.flatten))))) : gJoin x y Q := by
  unfold gJoin
  rw [hx, hy]
  show onS (strsOf _) _
  have e : ls.map (fun l => PyData.str (tx l)) = (ls.map tx).map .str := by rw [List.map_map]; rfl
  rw [e, strsOf_map]
  refine ⟨?_, by rw [join_tx]; exact q⟩
  have e2 : ((ls.map tx).map (·.length)).sum = ls.flatten.length := by
    rw [List.map_map, List.length_flatten]
    congr 1
  rw [e2]
  simp
  simp at h
  omega
theorem weight_s {z : Str} : (PyData.str z).weight = z.length := by simp [PyData.weight, Str.length]
theorem rW_tx {l : List Nat} {m : Nat} (h : ∀ c ∈ l, c < 16 ^ 8) (hl : l.length ≤ m) : rW 1 m (.str (tx l)) := ⟨by
  rw [rOk_s, tx_cps, List.all_eq_true]
  exact fun c hc => decide_eq_true (h c hc), by
  rw [weight_s, tx_len]
  exact hl⟩
theorem eqvAll_tx : ∀ (xs ys : List (List Nat)), PyData.eqvAll (xs.map fun l => .str (tx l)) (ys.map fun l => .str (tx l)) = decide (xs = ys)
  | [], [] => by simp
  | [], y :: ys => by simp
  | x :: xs, [] => by simp
  | x :: xs, y :: ys => by
    rw [List.map_cons, List.map_cons, eqvAll_cons, eqvAll_tx xs ys, eqv_ss]
    by_cases h : x = y <;> by_cases h2 : xs = ys <;> simp [h, h2]
end DL

namespace DL
open PySem PySem.Spec PyProof.Rows L2 PySem.W
/-! ### typed data -/
class Ty {α : Type} (e : α → D) (n : outParam Nat) : Prop where
  inj : ∀ {a b : α}, e a = e b → a = b
  eqv : ∀ a b : α, PyData.eqv (e a) (e b) = true ↔ a = b
  plain : ∀ a : α, (e a).plain = true
  depth : ∀ a : α, (e a).depth ≤ n
/-- a tuple of typed things -/
def tpD {α : Type} (e : α → D) (xs : List α) : D := .tuple (xs.map e)
/-- a pair -/
def p2 {α β : Type} (e : α → D) (f : β → D) (q : α × β) : D := .tuple [e q.1, f q.2]
/-- a text -/
def sD (l : List Nat) : D := .str (tx l)
theorem eqvAll_ty {α : Type} {e : α → D} {n : Nat} [h : Ty e n] : ∀ (xs ys : List α), PyData.eqvAll (xs.map e) (ys.map e) = true ↔ xs = ys
  | [], [] => by simp
  | [], y :: ys => by simp
  | x :: xs, [] => by simp
  | x :: xs, y :: ys => by
    rw [List.map_cons, List.map_cons, eqvAll_cons, Bool.and_eq_true, eqvAll_ty xs ys, h.eqv, List.cons.injEq]
theorem map_ty {α : Type} {e : α → D} {n : Nat} [h : Ty e n] : ∀ {xs ys : List α}, xs.map e = ys.map e → xs = ys
  | [], [], _ => rfl
  | [], y :: ys, h => by cases h
  | x :: xs, [], h => by cases h
  | x :: xs, y :: ys, q => by
    rw [List.map_cons, List.map_cons] at q
    injection q with q1 q2
    rw [h.inj q1, map_ty q2]
instance : Ty dI 0 where
  inj := fun h => by injection h
  eqv := fun a b => by simp
  plain := fun _ => rfl
  depth := fun _ => by simp
instance : Ty sD 0 where
  inj := fun h => by injection h with h; exact tx_inj h
  eqv := fun a b => by simp [sD]
  plain := fun _ => rfl
  depth := fun _ => by simp [sD]
theorem plainAll_ty {α : Type} {e : α → D} {n : Nat} [h : Ty e n] (xs : List α) : PyData.plainAll (xs.map e) = true := plainAll_of fun d hd => by
  obtain ⟨x, _, rfl⟩ := List.mem_map.mp hd
  exact h.plain x
theorem depthAll_ty {α : Type} {e : α → D} {n : Nat} [h : Ty e n] (xs : List α) : PyData.depthAll (xs.map e) ≤ n := depthAll_of fun d hd => by
  obtain ⟨x, _, rfl⟩ := List.mem_map.mp hd
  exact h.depth x
instance {α : Type} {e : α → D} {n : Nat} [h : Ty e n] : Ty (tpD e) (n + 1) where
  inj := fun h => by unfold tpD at h; injection h with h; exact map_ty h
  eqv := fun a b => by unfold tpD; rw [eqv_tt]; exact eqvAll_ty a b
  plain := fun a => by unfold tpD; rw [plain_t]; exact plainAll_ty a
  depth := fun a => by unfold tpD; rw [depth_t]; exact Nat.succ_le_succ (depthAll_ty a)
instance {α β : Type} {e : α → D} {f : β → D} {n m : Nat} [h : Ty e n] [h' : Ty f m] : Ty (p2 e f) (max n m + 1) where
  inj := fun {a b} q => by
    unfold p2 at q
    injection q with q
    injection q with q1 q2
    injection q2 with q2 _
    exact Prod.ext (h.inj q1) (h'.inj q2)
  eqv := fun a b => by
    unfold p2
    rw [eqv_tt, eqvAll_cons, eqvAll_cons, eqvAll_nil, Bool.and_true, Bool.and_eq_true, h.eqv, h'.eqv]
    exact ⟨fun ⟨a, b⟩ => Prod.ext a b, fun h => by rw [h]; exact ⟨rfl, rfl⟩⟩
  plain := fun a => by unfold p2; rw [plain_t]; simp [h.plain, h'.plain]
  depth := fun a => by
    unfold p2
    have h1 := h.depth a.1
    have h2 := h'.depth a.2
    simp [PyData.depth, PyData.depthAll]
    omega
theorem eqv_ty {α : Type} [DecidableEq α] {e : α → D} {n : Nat} [h : Ty e n] (a b : α) : PyData.eqv (e a) (e b) = decide (a = b) := by
  by_cases q : a = b
  · rw [decide_eq_true q]; exact (h.eqv a b).mpr q
  · rw [decide_eq_false q]
    cases z : PyData.eqv (e a) (e b) with
    | false => rfl
    | true => exact absurd ((h.eqv a b).mp z) q
theorem any_ty {α : Type} [DecidableEq α] {e : α → D} {n : Nat} [h : Ty e n] (xs : List α) (x : α) : ((xs.map e).any fun z => PyData.eqv z (e x)) = decide (x ∈ xs) := by
  induction xs with
  | nil => simp
  | cons a r ih =>
    rw [List.map_cons, List.any_cons, ih, eqv_ty]
    by_cases q : a = x <;> by_cases q2 : x ∈ r <;> simp [q, q2]
    · intro z; exact q z.symm
section
variable {α β : Type} {e : α → D} {f : β → D} {xs ys : List α} {n : Nat} {Q : TV → Prop} {i : Int} {lo hi : Option Int} {neg : Bool} {x y : TV}
@[simp] theorem onS_map {α β : Type} {g : α → β} {o : Option α} {Q : β → Prop} : onS (o.map g) Q = onS o fun x => Q (g x) := by cases o <;> rfl
theorem atI_map {α β : Type} (g : α → β) (xs : List α) (i : Int) : atI (xs.map g) i = (atI xs i).map g := by
  unfold atI
  rw [List.length_map]
  cases ixN xs.length i with
  | none => rfl
  | some j => simp
theorem cutG_map {α β : Type} (f : α → β) (xs : List α) (lo hi : Option Int) : cutG (xs.map f) lo hi = (cutG xs lo hi).map f := by
  unfold cutG
  rw [List.length_map, List.map_take, List.map_drop]
theorem tD_def : tpD e xs = .tuple (xs.map e) := rfl
theorem eqL [DecidableEq α] [Ty e n] (hn : n ≤ 50) (hx : x.data = some (.list (xs.map e))) (hy : y.data = some (.list (ys.map e))) : eqT x y = some (.pl (.d (.bool (decide (xs = ys))))) := by
  rw [eqT_of hx hy (okEq_of (by rw [plain_l]; exact plainAll_ty xs) (by rw [plain_l]; exact plainAll_ty ys) (by have := depthAll_ty (e := e) xs; rw [depth_l]; omega)), eqv_ll]
  congr 4
  exact Bool.eq_iff_iff.mpr ((eqvAll_ty xs ys).trans decide_eq_true_iff.symm)
theorem neL [DecidableEq α] [Ty e n] (hn : n ≤ 50) (hx : x.data = some (.list (xs.map e))) (hy : y.data = some (.list (ys.map e))) : neT x y = some (.pl (.d (.bool (!decide (xs = ys))))) := by
  rw [neT_of hx hy (okEq_of (by rw [plain_l]; exact plainAll_ty xs) (by rw [plain_l]; exact plainAll_ty ys) (by have := depthAll_ty (e := e) xs; rw [depth_l]; omega)), eqv_ll]
  congr 5
  exact Bool.eq_iff_iff.mpr ((eqvAll_ty xs ys).trans decide_eq_true_iff.symm)
theorem eqE [DecidableEq α] [h : Ty e n] {a b : α} (hn : n ≤ 50) : eqT (.pl (.d (e a))) (.pl (.d (e b))) = some (.pl (.d (.bool (decide (a = b))))) := by
  rw [eqT_of rfl rfl (okEq_of (h.plain a) (h.plain b) (by have := h.depth a; omega)), eqv_ty]
theorem neE [DecidableEq α] [h : Ty e n] {a b : α} (hn : n ≤ 50) : neT (.pl (.d (e a))) (.pl (.d (e b))) = some (.pl (.d (.bool (!decide (a = b))))) := by
  rw [neT_of rfl rfl (okEq_of (h.plain a) (h.plain b) (by have := h.depth a; omega)), eqv_ty]
@[simp] theorem eq_tpD [DecidableEq α] [Ty e n] (hn : n ≤ 49) : eqT (.pl (.d (tpD e xs))) (.pl (.d (tpD e ys))) = some (.pl (.d (.bool (decide (xs = ys))))) := eqE (e := tpD e) (by omega)
@[simp] theorem ne_tpD [DecidableEq α] [Ty e n] (hn : n ≤ 49) : neT (.pl (.d (tpD e xs))) (.pl (.d (tpD e ys))) = some (.pl (.d (.bool (!decide (xs = ys))))) := neE (e := tpD e) (by omega)
@[simp] theorem eq_p2 [DecidableEq α] [DecidableEq β] {m : Nat} [Ty e n] [Ty f m] (hn : max n m ≤ 49) {a b : α × β} : eqT (.pl (.d (p2 e f a))) (.pl (.d (p2 e f b))) = some (.pl (.d (.bool (decide (a = b))))) := eqE (e := p2 e f) (by omega)
@[simp] theorem ne_p2 [DecidableEq α] [DecidableEq β] {m : Nat} [Ty e n] [Ty f m] (hn : max n m ≤ 49) {a b : α × β} : neT (.pl (.d (p2 e f a))) (.pl (.d (p2 e f b))) = some (.pl (.d (.bool (!decide (a = b))))) := neE (e := p2 e f) (by omega)
theorem in_any [DecidableEq α] [h : Ty e n] (hn : n ≤ 50) {a : α} (hx : x.data = some (e a)) (hy : y.data = some (.list (xs.map e)) ∨ y.data = some (.tuple (xs.map e))) : inT neg x y = some (.pl (.d (.bool (xor neg (decide (a ∈ xs)))))) := by
  rcases hy with hy | hy
  · rw [inT_l hx hy (plainAll_ty xs) (h.plain a) (by have := h.depth a; omega), any_ty]
  · rw [inT_t hx hy (plainAll_ty xs) (h.plain a) (by have := h.depth a; omega), any_ty]
@[simp] theorem in_tpD [DecidableEq α] [Ty e n] (hn : n ≤ 50) {a : α} : inT neg (.pl (.d (e a))) (.pl (.d (tpD e xs))) = some (.pl (.d (.bool (xor neg (decide (a ∈ xs)))))) := in_any hn rfl (.inr rfl)
@[simp] theorem in_pl [DecidableEq α] [Ty e n] (hn : n ≤ 50) {a : α} : inT neg (.pl (.d (e a))) (.pl (.d (.list (xs.map e)))) = some (.pl (.d (.bool (xor neg (decide (a ∈ xs)))))) := in_any hn rfl (.inl rfl)
@[simp] theorem in_fr [DecidableEq α] [Ty e n] (hn : n ≤ 50) {a : α} : inT neg (.pl (.d (e a))) (.fr (xs.map e)) = some (.pl (.d (.bool (xor neg (decide (a ∈ xs)))))) := in_any hn rfl (.inl rfl)
@[simp] theorem in_lv [DecidableEq α] [Ty e n] (hn : n ≤ 50) {a : α} : inT neg (.pl (.d (e a))) (.lv (xs.map e)) = some (.pl (.d (.bool (xor neg (decide (a ∈ xs)))))) := in_any hn rfl (.inl rfl)
@[simp] theorem in_tI {a : Int} {xs : List Int} : inT neg (.pl (.d (.int a))) (.pl (.d (tpD dI xs))) = some (.pl (.d (.bool (xor neg (decide (a ∈ xs)))))) := in_tpD (e := dI) (by decide)
@[simp] theorem in_lI {a : Int} {xs : List Int} : inT neg (.pl (.d (.int a))) (.pl (.d (.list (xs.map dI)))) = some (.pl (.d (.bool (xor neg (decide (a ∈ xs)))))) := in_pl (e := dI) (by decide)
@[simp] theorem in_fI {a : Int} {xs : List Int} : inT neg (.pl (.d (.int a))) (.fr (xs.map dI)) = some (.pl (.d (.bool (xor neg (decide (a ∈ xs)))))) := in_fr (e := dI) (by decide)
@[simp] theorem in_vI {a : Int} {xs : List Int} : inT neg (.pl (.d (.int a))) (.lv (xs.map dI)) = some (.pl (.d (.bool (xor neg (decide (a ∈ xs)))))) := in_lv (e := dI) (by decide)
@[simp] theorem seqK_tpD {Q : List D → Bool → Prop} : seqK Q (.pl (.d (tpD e xs))) = Q (xs.map e) true := (rfl)
@[simp] theorem gLen_tpD : gLen [.pl (.d (tpD e xs))] Q = Q (.pl (.d (.int (xs.length : Int)))) := by unfold tpD; rw [gLen_t, List.length_map]
@[simp] theorem idx_tpD : idxT (.pl (.d (tpD e xs))) (.pl (.d (.int i))) = (atI xs i).map fun x => .pl (.d (e x)) := by
  unfold tpD
  rw [idx_t, atI_map, Option.map_map]
  rfl
@[simp] theorem idx_l0 : idxT (.pl (.d (.list (xs.map e)))) (.pl (.d (.int i))) = (atI xs i).map fun x => .pl (.d (e x)) := by
  rw [idx_l, atI_map, Option.map_map]
  rfl
@[simp] theorem idx_lv0 : idxT (.lv (xs.map e)) (.pl (.d (.int i))) = (atI xs i).map fun x => .pl (.d (e x)) := by
  rw [idx_lv, atI_map, Option.map_map]
  rfl
@[simp] theorem idx_fr0 : idxT (.fr (xs.map e)) (.pl (.d (.int i))) = (atI xs i).map fun x => .pl (.d (e x)) := by
  rw [idx_fr, atI_map, Option.map_map]
  rfl
@[simp] theorem idx_p0 {q : α × β} : idxT (.pl (.d (p2 e f q))) (.pl (.d (.int 0))) = some (.pl (.d (e q.1))) := (rfl)
@[simp] theorem idx_p1 {q : α × β} : idxT (.pl (.d (p2 e f q))) (.pl (.d (.int 1))) = some (.pl (.d (f q.2))) := (rfl)
@[simp] theorem btup_p2 {b c : BT} {q : α × β} {γ : Gam} : bTup 2 (bCons b (bCons c bNil)) (p2 e f q) γ = (b (e q.1) γ).bind fun γ' => c (f q.2) γ' := by
  unfold p2
  show (b (e q.1) γ).bind (fun γ' => (c (f q.2) γ').bind fun γ'' => some γ'') = _
  congr 1
  funext γ'
  cases c (f q.2) γ' <;> rfl
@[simp] theorem slc_tpD : slcT (.pl (.d (tpD e xs))) lo hi = some (.pl (.d (tpD e (cutG xs lo hi)))) := by
  unfold tpD
  rw [slc_t, cutG_map]
@[simp] theorem slc_plM : slcT (.pl (.d (.list (xs.map e)))) lo hi = some (.fr ((cutG xs lo hi).map e)) := by rw [slc_pl, cutG_map]
@[simp] theorem slc_lvM : slcT (.lv (xs.map e)) lo hi = some (.fr ((cutG xs lo hi).map e)) := by rw [slc_lv, cutG_map]
@[simp] theorem slc_frM : slcT (.fr (xs.map e)) lo hi = some (.fr ((cutG xs lo hi).map e)) := by rw [slc_fr, cutG_map]
@[simp] theorem rev_tpD : revT (.pl (.d (tpD e xs))) = some (.pl (.d (tpD e xs.reverse))) := by
  unfold tpD
  rw [rev_t, List.map_reverse]
@[simp] theorem isT_tpD : PyData.isTuple (tpD e xs) = true := (rfl)
@[simp] theorem isL_tpD : PyData.isList (tpD e xs) = false := (rfl)
@[simp] theorem isI_tpD : PyData.isInt (tpD e xs) = false := (rfl)
@[simp] theorem isS_tpD : PyData.isStr (tpD e xs) = false := (rfl)
@[simp] theorem isB_tpD : PyData.isBool (tpD e xs) = false := (rfl)
@[simp] theorem isD_tpD : PyData.isDict (tpD e xs) = false := (rfl)
@[simp] theorem isNon_tpD : isNon (tpD e xs) = false := (rfl)
@[simp] theorem isT_p2 {q : α × β} : PyData.isTuple (p2 e f q) = true := (rfl)
@[simp] theorem isL_p2 {q : α × β} : PyData.isList (p2 e f q) = false := (rfl)
@[simp] theorem isNon_p2 {q : α × β} : isNon (p2 e f q) = false := (rfl)
@[simp] theorem gLen_p2 {q : α × β} : gLen [.pl (.d (p2 e f q))] Q = Q (.pl (.d (.int 2))) := (rfl)
@[simp high] theorem gTuple_frM : gTuple [.fr (xs.map e)] Q = Q (.pl (.d (tpD e xs))) := (rfl)
@[simp high] theorem gTuple_lvM : gTuple [.lv (xs.map e)] Q = Q (.pl (.d (tpD e xs))) := (rfl)
@[simp high] theorem gTuple_lM : gTuple [.pl (.d (.list (xs.map e)))] Q = Q (.pl (.d (tpD e xs))) := (rfl)
@[simp] theorem gTuple_tpD : gTuple [.pl (.d (tpD e xs))] Q = Q (.pl (.d (tpD e xs))) := (rfl)
@[simp] theorem gList_tpD : gList [.pl (.d (tpD e xs))] Q = Q (.fr (xs.map e)) := (rfl)
@[simp] theorem zipK_tpD {ys : List β} {Q : List D → Bool → Prop} : zipK Q [.pl (.d (tpD e xs)), .pl (.d (tpD f ys))] = Q ((xs.zip ys).map (p2 e f)) true := by
  unfold tpD
  rw [zipK_t, zipD_map]
  rfl
theorem zipK_lM {ys : List β} {Q : List D → Bool → Prop} (hx : x.data = some (.list (xs.map e))) (hy : y.data = some (.list (ys.map f))) : zipK Q [x, y] = Q ((xs.zip ys).map (p2 e f)) (notLv x && notLv y) := by
  rw [zipK_l hx hy, zipD_map]
  rfl
@[simp] theorem enumK_tpD {Q : List D → Bool → Prop} : enumTK Q [.pl (.d (tpD e xs))] = Q (enumD (xs.map e)) true := (rfl)
theorem add_tpD (h : xs.length + ys.length ≤ 100000) : addT (.pl (.d (tpD e xs))) (.pl (.d (tpD e ys))) = some (.pl (.d (tpD e (xs ++ ys)))) := by
  unfold tpD
  rw [add_tt (by rw [List.length_map, List.length_map]; exact h), List.map_append]
theorem add_L (hx : x.data = some (.list (xs.map e))) (hy : y.data = some (.list (ys.map e))) (h : xs.length + ys.length ≤ 100000) : addT x y = some (.fr ((xs ++ ys).map e)) := by
  rw [add_ll hx hy (by rw [List.length_map, List.length_map]; exact h), List.map_append]
@[simp] theorem gSumT_tpD {bs : List Int} : gSumT [.pl (.d (tpD dI bs))] Q = Q (.pl (.d (.int bs.sum))) := gSumT_t
@[simp] theorem tru_tpD : truT (.pl (.d (tpD e xs))) = some (!xs.isEmpty) := by
  unfold tpD
  cases xs <;> rfl
@[simp] theorem plain_tpD [Ty e n] : (tpD e xs).plain = true := Ty.plain (e := tpD e) xs
theorem tI0 : PyData.tuple [] = tpD dI [] := rfl
theorem tI1 {a : Int} : PyData.tuple [.int a] = tpD dI [a] := rfl
theorem tI2 {a b : Int} : PyData.tuple [.int a, .int b] = tpD dI [a, b] := rfl
theorem tI3 {a b c : Int} : PyData.tuple [.int a, .int b, .int c] = tpD dI [a, b, c] := rfl
theorem tI4 {a b c d : Int} : PyData.tuple [.int a, .int b, .int c, .int d] = tpD dI [a, b, c, d] := rfl
theorem tI5 {a b c d g : Int} : PyData.tuple [.int a, .int b, .int c, .int d, .int g] = tpD dI [a, b, c, d, g] := rfl
theorem pI2 {a b : Int} : PyData.tuple [.int a, .int b] = p2 dI dI (a, b) := rfl
end
/-! ### what is handed in, typed -/
def onE {α : Type} (e : α → D) (a : RV) (q : α → Prop) : Prop := ∃ x, a = .d (e x) ∧ q x
def onD (a : RV) (q : D → Prop) : Prop := ∃ d, a = .d d ∧ q d
@[simp] theorem onE_ev {α : Type} {e : α → D} {n : Nat} [h : Ty e n] {x : α} {q : α → Prop} : onE e (.d (e x)) q = q x := propext ⟨fun ⟨y, h1, h2⟩ => by
  injection h1 with h1
  rw [h.inj h1]
  exact h2, fun h => ⟨x, rfl, h⟩⟩
@[simp] theorem onI_ev {x : Int} {q : Int → Prop} : onE dI (.d (.int x)) q = q x := onE_ev (e := dI)
@[simp] theorem onD_ev {d : D} {q : D → Prop} : onD (.d d) q = q d := propext ⟨fun ⟨y, h1, h2⟩ => by
  injection h1 with h1
  rw [h1]
  exact h2, fun h => ⟨d, rfl, h⟩⟩
/-! ### all, any, sum of a comprehension -/
section
variable {b : BT} {γ : Gam} {fe : FE} {α : Type} {Q : TV → Prop}
theorem allM (e : α → D) (p : α → Bool) (xs : List α) (hl : xs.length ≤ 100000) (h : ∀ x ∈ xs, ∀ k1 : D → Prop, k1 (.bool (p x)) → onS (b (e x) γ) fun γ2 => fe γ2 fun t => onS t.plain k1) (q : Q (.pl (.d (.bool (xs.all p))))) :
    lcD b dYes fe γ (xs.map e) [] fun out => gAll [.fr out] Q :=
  lcM e (fun x => .bool (p x)) xs hl h (gAll_of (bs := xs.map p) rfl (by rw [List.map_map]; rfl) (by rw [all_map']; exact q))
theorem allT (e : α → D) (xs : List α) (hl : xs.length ≤ 100000) (h : ∀ x ∈ xs, ∀ k1 : D → Prop, k1 (.bool true) → onS (b (e x) γ) fun γ2 => fe γ2 fun t => onS t.plain k1) (q : Q (.pl (.d (.bool true)))) :
    lcD b dYes fe γ (xs.map e) [] fun out => gAll [.fr out] Q := allM e (fun _ => true) xs hl h (by rw [List.all_eq_true.mpr fun _ _ => rfl]; exact q)
theorem allD (p : D → Bool) (ds : List D) (hl : ds.length ≤ 100000) (h : ∀ x ∈ ds, ∀ k1 : D → Prop, k1 (.bool (p x)) → onS (b x γ) fun γ2 => fe γ2 fun t => onS t.plain k1) (q : Q (.pl (.d (.bool (ds.all p))))) :
    lcD b dYes fe γ ds [] fun out => gAll [.fr out] Q := by
  have := allM (fun d : D => d) p ds hl h q
  rwa [List.map_id'] at this
theorem anyM (e : α → D) (p : α → Bool) (xs : List α) (hl : xs.length ≤ 100000) (h : ∀ x ∈ xs, ∀ k1 : D → Prop, k1 (.bool (p x)) → onS (b (e x) γ) fun γ2 => fe γ2 fun t => onS t.plain k1) (q : Q (.pl (.d (.bool (xs.any p))))) :
    lcD b dYes fe γ (xs.map e) [] fun out => gAny [.fr out] Q :=
  lcM e (fun x => .bool (p x)) xs hl h (gAny_of (bs := xs.map p) rfl (by rw [List.map_map]; rfl) (by rw [any_map']; exact q))
theorem sumM (e : α → D) (g : α → Int) (xs : List α) (hl : xs.length ≤ 100000) (h : ∀ x ∈ xs, ∀ k1 : D → Prop, k1 (dI (g x)) → onS (b (e x) γ) fun γ2 => fe γ2 fun t => onS t.plain k1) (q : Q (.pl (.d (.int (xs.map g).sum)))) :
    lcD b dYes fe γ (xs.map e) [] fun out => gSumT [.fr out] Q :=
  lcM e (fun x => dI (g x)) xs hl h (gSumT_of (bs := xs.map g) (.inl rfl) (by rw [List.map_map]; rfl) q)
/-- a comprehension over typed things gives typed things -/
theorem lcMM {β : Type} (e : α → D) (f : β → D) (g : α → β) (xs : List α) {k : List D → Prop} (hl : xs.length ≤ 100000) (h : ∀ x ∈ xs, ∀ k1 : D → Prop, k1 (f (g x)) → onS (b (e x) γ) fun γ2 => fe γ2 fun t => onS t.plain k1)
    (hk : k ((xs.map g).map f)) : lcD b dYes fe γ (xs.map e) [] k :=
  lcM e (fun x => f (g x)) xs hl h (by rw [List.map_map] at hk; exact hk)
theorem lcFF {β : Type} {fc : FT} (e : α → D) (f : β → D) (p : α → Bool) (g : α → β) (xs : List α) {k : List D → Prop} (hl : xs.length ≤ 100000)
    (h : ∀ x ∈ xs, ∀ (k1 : D → Prop) (k0 : Prop), (p x = true → k1 (f (g x))) → (p x = false → k0) → onS (b (e x) γ) fun γ2 => fc γ2 fun c => if c = true then fe γ2 fun t => onS t.plain k1 else k0)
    (hk : k (((xs.filter p).map g).map f)) : lcD b fc fe γ (xs.map e) [] k :=
  lcF e p (fun x => f (g x)) xs hl h (by rw [List.map_map] at hk; exact hk)
end
/-! ### numbers in a row -/
/-- lo, lo + 1, .. -/
def up (lo : Int) (n : Nat) : List Int := (List.range n).map fun (i : Nat) => lo + (i : Int)
theorem rangeD_up {lo : Int} {n : Nat} : rangeD lo n = (up lo n).map dI := by
  rw [rangeD_def]
  unfold up
  rw [List.map_map]
  rfl
@[simp] theorem up_len {lo : Int} {n : Nat} : (up lo n).length = n := by unfold up; simp
theorem up_mem {lo x : Int} {n : Nat} : x ∈ up lo n ↔ lo ≤ x ∧ x < lo + n := by
  unfold up
  rw [List.mem_map]
  constructor
  · rintro ⟨i, hi, rfl⟩
    have := List.mem_range.mp hi
    omega
  · rintro ⟨h1, h2⟩
    exact ⟨(x - lo).toNat, List.mem_range.mpr (by omega), by omega⟩
theorem up_s {lo : Int} {n : Nat} : up lo (n + 1) = up lo n ++ [lo + n] := by
  unfold up
  rw [List.range_succ, List.map_append]
  rfl
theorem up_0 {lo : Int} : up lo 0 = [] := rfl
theorem up_asc {lo : Int} : ∀ n : Nat, (up lo n).Pairwise (· < ·)
  | 0 => .nil
  | n + 1 => by
    rw [up_s, List.pairwise_append]
    refine ⟨up_asc n, List.pairwise_singleton _ _, fun a ha b hb => ?_⟩
    rw [List.mem_singleton] at hb
    have := up_mem.mp ha
    omega
/-! ### neighbours -/
def asc (xs : List Int) : Bool := (xs.zip (xs.drop 1)).all fun q => decide (q.1 < q.2)
theorem asc_iff : ∀ {xs : List Int}, asc xs = true ↔ xs.Pairwise (· < ·)
  | [] => by simp [asc]
  | [a] => by simp [asc]
  | a :: b :: r => by
    have ih := asc_iff (xs := b :: r)
    have e : asc (a :: b :: r) = (decide (a < b) && asc (b :: r)) := rfl
    rw [e, Bool.and_eq_true, ih, decide_eq_true_iff, List.pairwise_cons (a := a)]
    constructor
    · rintro ⟨h1, h2⟩
      refine ⟨fun c hc => ?_, h2⟩
      rcases List.mem_cons.mp hc with rfl | hc
      · exact h1
      · exact Int.lt_trans h1 ((List.pairwise_cons.mp h2).1 c hc)
    · rintro ⟨h1, h2⟩
      exact ⟨h1 b (List.mem_cons_self ..), h2⟩
/-! ### written by repr -/
section
variable {α β : Type} {e : α → D} {f : β → D} {k n m : Nat}
theorem rW_tpD {xs : List α} (h : ∀ x ∈ xs, rW k n (e x)) (hl : xs.length ≤ m) : rW (k + 1) (m * (n + 1)) (tpD e xs) := rW_t (fun d hd => by
  obtain ⟨x, hx, rfl⟩ := List.mem_map.mp hd
  exact h x hx) (by rw [List.length_map]; exact hl)
theorem rW_LM {xs : List α} (h : ∀ x ∈ xs, rW k n (e x)) (hl : xs.length ≤ m) : rW (k + 1) (m * (n + 1)) (dL (xs.map e)) := rW_l (fun d hd => by
  obtain ⟨x, hx, rfl⟩ := List.mem_map.mp hd
  exact h x hx) (by rw [List.length_map]; exact hl)
theorem rW_p2 {q : α × β} (h : rW k n (e q.1)) (h' : rW k n (f q.2)) : rW (k + 1) (2 * (n + 1)) (p2 e f q) := rW_t (m := 2) (fun d hd => by
  rcases List.mem_cons.mp hd with rfl | hd
  · exact h
  · rw [List.mem_singleton] at hd; rw [hd]; exact h') (Nat.le_refl _)
theorem rW_tI {xs : List Int} (h : ∀ x ∈ xs, x.natAbs < 10 ^ 12) (hl : xs.length ≤ m) : rW 2 (m * 41) (tpD dI xs) := rW_tpD (n := 40) (fun x hx => rW_i (h x hx)) hl
theorem rW_ls {ds : List D} (h : ∀ d ∈ ds, rW k n d) (hl : ds.length ≤ m) : rW (k + 1) (m * (n + 1)) (dL ds) := rW_l h hl
@[simp] theorem gReprE_tpD {xs : List α} {Q : TV → Prop} : gReprE [.pl (.d (tpD e xs))] Q = (okRepr (tpD e xs) = true ∧ Q (.pl (.d (.str (tpD e xs).shown)))) := (rfl)
@[simp] theorem gReprE_p2 {q : α × β} {Q : TV → Prop} : gReprE [.pl (.d (p2 e f q))] Q = (okRepr (p2 e f q) = true ∧ Q (.pl (.d (.str (p2 e f q).shown)))) := (rfl)
end
end DL

namespace DL
open PySem PySem.Spec PyProof.Rows L2 PySem.W
/-! ### typed data with an order -/
class Od {α : Type} (e : α → D) (lt : outParam (α → α → Bool)) : Prop where
  alike : ∀ a b : α, alike (e a) (e b) = true
  lts : ∀ a b : α, dataLt (e a) (e b) = lt a b
  non : ∀ a : α, e a ≠ .none
  tri : ∀ a b : α, lt a b = true ∨ a = b ∨ lt b a = true
  trans : ∀ {a b c : α}, lt a b = true → lt b c = true → lt a c = true
  irr : ∀ a : α, lt a a = false
def ltI (a b : Int) : Bool := decide (a < b)
def lexP {α β : Type} [DecidableEq α] (l : α → α → Bool) (m : β → β → Bool) (a b : α × β) : Bool := if a.1 = b.1 then m a.2 b.2 else l a.1 b.1
def lexL {α : Type} [DecidableEq α] (l : α → α → Bool) : List α → List α → Bool
  | [], [] => false
  | [], _ :: _ => true
  | _ :: _, [] => false
  | x :: xs, y :: ys => if x = y then lexL l xs ys else l x y
/-- a triple -/
def p3 {α β γ : Type} (e : α → D) (f : β → D) (g : γ → D) (q : α × β × γ) : D := .tuple [e q.1, f q.2.1, g q.2.2]
instance : Od dI ltI where
  alike := fun a b => by simp [PySem.W.alike]
  lts := fun a b => dataLt_int a b
  non := fun a e => by cases e
  tri := fun a b => by unfold ltI; simp only [decide_eq_true_eq]; omega
  trans := fun {a b c} h1 h2 => by unfold ltI at *; simp only [decide_eq_true_eq] at *; omega
  irr := fun a => by unfold ltI; exact decide_eq_false (by omega)
section
variable {α β γ : Type} [DecidableEq α] [DecidableEq β] {e : α → D} {f : β → D} {g : γ → D} {n m : Nat} {l : α → α → Bool} {k : β → β → Bool} {j : γ → γ → Bool}
theorem lexP_tri (hl : ∀ a b : α, l a b = true ∨ a = b ∨ l b a = true) (hk : ∀ a b : γ, j a b = true ∨ a = b ∨ j b a = true) (a b : α × γ) : lexP l j a b = true ∨ a = b ∨ lexP l j b a = true := by
  unfold lexP
  by_cases h : a.1 = b.1
  · rw [if_pos h, if_pos h.symm]
    rcases hk a.2 b.2 with h2 | h2 | h2
    · exact .inl h2
    · exact .inr (.inl (Prod.ext h h2))
    · exact .inr (.inr h2)
  · rw [if_neg h, if_neg (fun z => h z.symm)]
    rcases hl a.1 b.1 with h2 | h2 | h2
    · exact .inl h2
    · exact absurd h2 h
    · exact .inr (.inr h2)
theorem lexP_trans (hl : ∀ {a b c : α}, l a b = true → l b c = true → l a c = true) (hi : ∀ a : α, l a a = false) (hk : ∀ {a b c : γ}, j a b = true → j b c = true → j a c = true) {a b c : α × γ} (h1 : lexP l j a b = true) (h2 : lexP l j b c = true) : lexP l j a c = true := by
  unfold lexP at *
  by_cases h : a.1 = b.1
  · rw [if_pos h] at h1
    by_cases h' : b.1 = c.1
    · rw [if_pos h'] at h2
      rw [if_pos (h.trans h')]
      exact hk h1 h2
    · rw [if_neg h'] at h2
      rw [if_neg (fun z => h' (h.symm.trans z)), h]
      exact h2
  · rw [if_neg h] at h1
    by_cases h' : b.1 = c.1
    · rw [if_neg (fun z => h (z.trans h'.symm)), ← h']
      exact h1
    · rw [if_neg h'] at h2
      have h3 := hl h1 h2
      rw [if_neg (fun z => by rw [z, hi] at h3; cases h3)]
      exact h3
instance [he : Ty e n] [oe : Od e l] [hf : Ty f m] [of' : Od f k] : Od (p2 e f) (lexP l k) where
  alike := fun a b => by simp [p2, PySem.W.alike, PySem.W.alikeAll, oe.alike, of'.alike]
  lts := fun a b => by
    unfold p2 lexP
    rw [dataLt_pair (oe.alike _ _) (of'.alike _ _), eqv_ty, eqv_ty, oe.lts, of'.lts]
    by_cases h : a.1 = b.1
    · by_cases h2 : a.2 = b.2
      · simp [h, h2, of'.irr]
      · simp [h, h2]
    · simp [h]
  non := fun a h => by unfold p2 at h; cases h
  tri := lexP_tri oe.tri of'.tri
  trans := fun {a b c} h1 h2 => lexP_trans (l := l) (j := k) (fun h h' => oe.trans h h') oe.irr (fun h h' => of'.trans h h') h1 h2
  irr := fun a => by unfold lexP; rw [if_pos rfl]; exact of'.irr _
end
section
variable {α β γ : Type} {e : α → D} {f : β → D} {g : γ → D} {n m k : Nat}
instance [h : Ty e n] [h' : Ty f m] [h'' : Ty g k] : Ty (p3 e f g) (max n (max m k) + 1) where
  inj := fun {a b} q => by
    unfold p3 at q
    injection q with q
    injection q with q1 q2
    injection q2 with q2 q3
    injection q3 with q3 _
    exact Prod.ext (h.inj q1) (Prod.ext (h'.inj q2) (h''.inj q3))
  eqv := fun a b => by
    unfold p3
    rw [eqv_tt, eqvAll_cons, eqvAll_cons, eqvAll_cons, eqvAll_nil, Bool.and_true, Bool.and_eq_true, Bool.and_eq_true, h.eqv, h'.eqv, h''.eqv]
    exact ⟨fun ⟨a, b, c⟩ => Prod.ext a (Prod.ext b c), fun h => by rw [h]; exact ⟨rfl, rfl, rfl⟩⟩
  plain := fun a => by unfold p3; rw [plain_t]; simp [h.plain, h'.plain, h''.plain]
  depth := fun a => by
    unfold p3
    have h1 := h.depth a.1
    have h2 := h'.depth a.2.1
    have h3 := h''.depth a.2.2
    simp [PyData.depth, PyData.depthAll]
    omega
variable {l : α → α → Bool} {j : β → β → Bool} {i : γ → γ → Bool}
instance [DecidableEq α] [DecidableEq β] [DecidableEq γ] [he : Ty e n] [oe : Od e l] [hf : Ty f m] [of' : Od f j] [hg : Ty g k] [og : Od g i] : Od (p3 e f g) (lexP l (lexP j i)) where
  alike := fun a b => by simp [p3, PySem.W.alike, PySem.W.alikeAll, oe.alike, of'.alike, og.alike]
  lts := fun a b => by
    unfold p3
    simp only [lexP]
    have e0 : PyProof.Rows.lexLt itemOrd (keyToksAll []) (keyToksAll []) = false := lex_irrefl _
    rw [dataLt_tuple, dataLt_cons (oe.alike _ _), dataLt_cons (of'.alike _ _), dataLt_cons (og.alike _ _), e0, eqv_ty, eqv_ty, eqv_ty, oe.lts, of'.lts, og.lts]
    by_cases h : a.1 = b.1
    · by_cases h2 : a.2.1 = b.2.1
      · by_cases h3 : a.2.2 = b.2.2
        · simp [h, h2, h3, og.irr]
        · simp [h, h2, h3]
      · simp [h, h2]
    · simp [h]
  non := fun a h => by unfold p3 at h; cases h
  tri := lexP_tri oe.tri (lexP_tri of'.tri og.tri)
  trans := fun {a b c} h1 h2 => lexP_trans (l := l) (j := lexP j i) (fun h h' => oe.trans h h') oe.irr (fun {x y z} h h' => lexP_trans (l := j) (j := i) (fun h h' => of'.trans h h') of'.irr (fun h h' => og.trans h h') h h') h1 h2
  irr := fun a => by simp only [lexP, if_true]; exact og.irr _
@[simp] theorem btup_p3 {b c d : BT} {q : α × β × γ} {γ' : Gam} : bTup 3 (bCons b (bCons c (bCons d bNil))) (p3 e f g q) γ' = (b (e q.1) γ').bind fun γ' => (c (f q.2.1) γ').bind fun γ' => d (g q.2.2) γ' := by
  unfold p3
  show (b (e q.1) γ').bind (fun γ' => (c (f q.2.1) γ').bind fun γ'' => (d (g q.2.2) γ'').bind fun z => some z) = _
  congr 1
  funext γ'
  congr 1
  funext γ''
  cases d (g q.2.2) γ'' <;> rfl
@[simp] theorem idx_3_0 {q : α × β × γ} : idxT (.pl (.d (p3 e f g q))) (.pl (.d (.int 0))) = some (.pl (.d (e q.1))) := (rfl)
@[simp] theorem idx_3_1 {q : α × β × γ} : idxT (.pl (.d (p3 e f g q))) (.pl (.d (.int 1))) = some (.pl (.d (f q.2.1))) := (rfl)
@[simp] theorem idx_3_2 {q : α × β × γ} : idxT (.pl (.d (p3 e f g q))) (.pl (.d (.int 2))) = some (.pl (.d (g q.2.2))) := (rfl)
@[simp] theorem isT_p3 {q : α × β × γ} : PyData.isTuple (p3 e f g q) = true := (rfl)
@[simp] theorem gLen_p3 {q : α × β × γ} {Q : TV → Prop} : gLen [.pl (.d (p3 e f g q))] Q = Q (.pl (.d (.int 3))) := (rfl)
theorem rW_p3 {k n : Nat} {q : α × β × γ} (h : rW k n (e q.1)) (h' : rW k n (f q.2.1)) (h'' : rW k n (g q.2.2)) : rW (k + 1) (3 * (n + 1)) (p3 e f g q) := rW_t (m := 3) (fun d hd => by
  rcases List.mem_cons.mp hd with rfl | hd
  · exact h
  · rcases List.mem_cons.mp hd with rfl | hd
    · exact h'
    · rw [List.mem_singleton] at hd; rw [hd]; exact h'') (Nat.le_refl _)
end
/-! lists by the first difference -/
section
variable {α : Type} [DecidableEq α] {e : α → D} {n : Nat} {l : α → α → Bool}
theorem alikeAll_ty [h : Od e l] : ∀ xs ys : List α, PySem.W.alikeAll (xs.map e) (ys.map e) = true
  | [], _ => by rw [List.map_nil, PySem.W.alikeAll]
  | _ :: _, [] => by rw [List.map_nil, List.map_cons, PySem.W.alikeAll]
  | x :: xs, y :: ys => by rw [List.map_cons, List.map_cons, PySem.W.alikeAll, h.alike x y, alikeAll_ty xs ys]; rfl
theorem lexL_data [h : Ty e n] [o : Od e l] : ∀ xs ys : List α, PyProof.Rows.lexLt itemOrd (keyToksAll (xs.map e)) (keyToksAll (ys.map e)) = lexL l xs ys
  | [], [] => lex_irrefl _
  | [], y :: ys => by
    rw [List.map_nil, List.map_cons, toks_all_cons]
    simp only [keyToksAll]
    rw [lex_diff (O := itemOrd) (by simp)]
    rfl
  | x :: xs, [] => by
    rw [List.map_nil, List.map_cons, toks_all_cons]
    simp only [keyToksAll]
    rw [lex_diff (O := itemOrd) (by simp)]
    rfl
  | x :: xs, y :: ys => by
    rw [List.map_cons, List.map_cons, dataLt_cons (o.alike _ _), lexL_data xs ys, eqv_ty, o.lts, lexL]
    by_cases h : x = y <;> simp [h]
theorem lexL_tri (hl : ∀ a b : α, l a b = true ∨ a = b ∨ l b a = true) : ∀ a b : List α, lexL l a b = true ∨ a = b ∨ lexL l b a = true
  | [], [] => .inr (.inl rfl)
  | [], _ :: _ => .inl rfl
  | _ :: _, [] => .inr (.inr rfl)
  | x :: xs, y :: ys => by
    unfold lexL
    by_cases h : x = y
    · rw [if_pos h, if_pos h.symm, h]
      rcases lexL_tri hl xs ys with h2 | h2 | h2
      · exact .inl h2
      · exact .inr (.inl (by rw [h2]))
      · exact .inr (.inr h2)
    · rw [if_neg h, if_neg (fun z => h z.symm)]
      rcases hl x y with h2 | h2 | h2
      · exact .inl h2
      · exact absurd h2 h
      · exact .inr (.inr h2)
theorem lexL_irr (hi : ∀ a : α, l a a = false) : ∀ a : List α, lexL l a a = false
  | [] => rfl
  | x :: xs => by unfold lexL; rw [if_pos rfl]; exact lexL_irr hi xs
theorem lexL_trans (hl : ∀ {a b c : α}, l a b = true → l b c = true → l a c = true) (hi : ∀ a : α, l a a = false) : ∀ {a b c : List α}, lexL l a b = true → lexL l b c = true → lexL l a c = true
  | [], [], _, h, _ => by cases h
  | [], _ :: _, [], _, h => by cases h
  | [], _ :: _, _ :: _, _, _ => rfl
  | _ :: _, [], _, h, _ => by cases h
  | _ :: _, _ :: _, [], _, h => by cases h
  | x :: xs, y :: ys, z :: zs, h1, h2 => by
    unfold lexL at *
    by_cases h : x = y
    · rw [if_pos h] at h1
      by_cases h' : y = z
      · rw [if_pos h'] at h2
        rw [if_pos (h.trans h')]
        exact lexL_trans hl hi h1 h2
      · rw [if_neg h'] at h2
        rw [if_neg (fun z => h' (h.symm.trans z)), h]
        exact h2
    · rw [if_neg h] at h1
      by_cases h' : y = z
      · rw [if_neg (fun z => h (z.trans h'.symm)), ← h']
        exact h1
      · rw [if_neg h'] at h2
        have h3 := hl h1 h2
        rw [if_neg (fun z => by rw [z, hi] at h3; cases h3)]
        exact h3
instance [h : Ty e n] [o : Od e l] : Od (tpD e) (lexL l) where
  alike := fun a b => by unfold tpD; rw [PySem.W.alike]; exact alikeAll_ty a b
  lts := fun a b => by unfold tpD; rw [dataLt_tuple]; exact lexL_data a b
  non := fun a h => by unfold tpD at h; cases h
  tri := lexL_tri o.tri
  trans := fun {a b c} h1 h2 => lexL_trans (l := l) (fun h h' => o.trans h h') o.irr h1 h2
  irr := lexL_irr o.irr
end
/-! ### sorted, min, max -/
section
variable {α : Type} {e : α → D} {n : Nat} {lt : α → α → Bool} {x : TV} {Q : TV → Prop} {xs : List α}
/-- what can be sorted: tuples with an item, or no tuples -/
def srt (e : α → D) (xs : List α) : Prop := (∀ a ∈ xs, ∃ x r, e a = .tuple (x :: r)) ∨ ∀ a ∈ xs, ∀ ys, e a ≠ .tuple ys
theorem srt_I {xs : List Int} : srt dI xs := .inr fun _ _ _ h => by cases h
theorem srt_2 {β γ : Type} {f : β → D} {g : γ → D} {xs : List (β × γ)} : srt (p2 f g) xs := .inl fun _ _ => ⟨_, _, rfl⟩
theorem srt_3 {β γ δ : Type} {f : β → D} {g : γ → D} {h : δ → D} {xs : List (β × γ × δ)} : srt (p3 f g h) xs := .inl fun _ _ => ⟨_, _, rfl⟩
theorem srt_L {xs : List (List α)} (h : ∀ a ∈ xs, a ≠ []) : srt (tpD e) xs := .inl fun a ha => by
  cases a with
  | nil => exact absurd rfl (h _ ha)
  | cons y r => exact ⟨e y, r.map e, rfl⟩
theorem okSort_ty [h : Ty e n] [o : Od e lt] (hn : n ≤ 50) (hs : srt e xs) (hl : xs.length ≤ 100000) : okSort (xs.map e) := by
  refine ⟨fun d hd d' hd' => ?_, ?_, plainAll_ty xs, ?_, by rw [List.length_map]; exact big _ hl⟩
  · obtain ⟨a, _, rfl⟩ := List.mem_map.mp hd
    obtain ⟨b, _, rfl⟩ := List.mem_map.mp hd'
    exact o.alike a b
  · rcases hs with hs | hs
    · refine .inl fun d hd => ?_
      obtain ⟨a, ha, rfl⟩ := List.mem_map.mp hd
      exact hs a ha
    · refine .inr fun d hd => ?_
      obtain ⟨a, ha, rfl⟩ := List.mem_map.mp hd
      exact ⟨o.non a, hs a ha⟩
  · have := depthAll_ty (e := e) xs
    show _ ≤ 60
    omega
theorem sortD_ty [o : Od e lt] (xs : List α) : ∃ ys : List α, sortD (xs.map e) = ys.map e ∧ ys.Perm xs ∧ ys.Pairwise fun a b => lt b a = false := by
  obtain ⟨ys, h1, h2⟩ := perm_map_inv (ds := sortD (xs.map e)) (List.mergeSort_perm _ _)
  refine ⟨ys, h1, h2, ?_⟩
  have hp : (sortD (xs.map e)).Pairwise fun a b => dataLe false (fun d => d) a b = true := sort_pairwise (sortLe_total _ _ _) _
  rw [h1, List.pairwise_map] at hp
  refine hp.imp fun {a b} h => ?_
  rw [dataLe_eq] at h
  have h' : (!dataLt (e b) (e a)) = true := h
  rw [o.lts] at h'
  cases z : lt b a with
  | false => rfl
  | true => rw [z] at h'; cases h'
theorem gSorted_ty [h : Ty e n] [o : Od e lt] (hn : n ≤ 50) (hs : srt e xs) (hl : xs.length ≤ 100000) (hx : x.data = some (.list (xs.map e))) (q : ∀ ys : List α, ys.Perm xs → (ys.Pairwise fun a b => lt b a = false) → Q (.fr (ys.map e))) : gSortedX [x] Q := by
  have key : gSorted [x] Q := by
    unfold gSorted
    simp only [hx]
    obtain ⟨ys, h1, h2, h3⟩ := sortD_ty (e := e) xs
    refine ⟨okSort_ty hn hs hl, ?_⟩
    rw [h1]
    exact q ys h2 h3
  unfold gSortedX
  simp only [hx]
  exact key
theorem okMM_ty [h : Ty e n] [o : Od e lt] (hn : n ≤ 50) : okMM (xs.map e) := by
  refine ⟨⟨fun d hd d' hd' => ?_, fun d hd => ?_⟩, plainAll_ty xs, ?_⟩
  · obtain ⟨a, _, rfl⟩ := List.mem_map.mp hd
    obtain ⟨b, _, rfl⟩ := List.mem_map.mp hd'
    exact o.alike a b
  · obtain ⟨a, _, rfl⟩ := List.mem_map.mp hd
    exact o.non a
  · have := depthAll_ty (e := e) xs
    show _ ≤ 60
    omega
/-- g is the least of xs -/
def least (lt : α → α → Bool) (xs : List α) (g : α) : Prop := g ∈ xs ∧ ∀ y ∈ xs, y ≠ g → lt g y = true
/-- g is the greatest of xs -/
def most (lt : α → α → Bool) (xs : List α) (g : α) : Prop := g ∈ xs ∧ ∀ y ∈ xs, y ≠ g → lt y g = true
theorem least_one [o : Od e lt] {g g' : α} (h : least lt xs g) (h' : least lt xs g') : g = g' := by
  by_cases q : g = g'
  · exact q
  · have h1 := h.2 g' h'.1 (fun z => q z.symm)
    have h2 := h'.2 g h.1 q
    have := o.trans h1 h2
    rw [o.irr] at this
    cases this
theorem most_one [o : Od e lt] {g g' : α} (h : most lt xs g) (h' : most lt xs g') : g = g' := by
  by_cases q : g = g'
  · exact q
  · have h1 := h.2 g' h'.1 (fun z => q z.symm)
    have h2 := h'.2 g h.1 q
    have := o.trans h1 h2
    rw [o.irr] at this
    cases this
theorem minD_ty [o : Od e lt] : ∀ (xs : List α) (a : α), ∃ g, minD (e a) (xs.map e) = e g ∧ least lt (a :: xs) g
  | [], a => ⟨a, rfl, List.mem_cons_self .., fun y hy hn => absurd (List.mem_singleton.mp hy) hn⟩
  | b :: xs, a => by
    have e1 : minD (e a) ((b :: xs).map e) = minD (if dataLt (e b) (e a) = true then e b else e a) (xs.map e) := rfl
    rw [e1, o.lts]
    by_cases h : lt b a = true
    · rw [if_pos h]
      obtain ⟨g, h1, h2, h3⟩ := minD_ty xs b
      refine ⟨g, h1, List.mem_cons_of_mem _ h2, fun y hy hn => ?_⟩
      rcases List.mem_cons.mp hy with rfl | hy
      · by_cases hb : b = g
        · rw [← hb]; exact h
        · exact o.trans (h3 b (List.mem_cons_self ..) hb) h
      · exact h3 y hy hn
    · rw [if_neg h]
      obtain ⟨g, h1, h2, h3⟩ := minD_ty xs a
      refine ⟨g, h1, ?_, fun y hy hn => ?_⟩
      · rcases List.mem_cons.mp h2 with h2 | h2
        · rw [h2]; exact List.mem_cons_self ..
        · exact List.mem_cons_of_mem _ (List.mem_cons_of_mem _ h2)
      · rcases List.mem_cons.mp hy with rfl | hy
        · exact h3 y (List.mem_cons_self ..) hn
        · rcases List.mem_cons.mp hy with rfl | hy
          · rcases o.tri a y with h4 | h4 | h4
            · by_cases hb : a = g
              · rw [← hb]; exact h4
              · exact o.trans (h3 a (List.mem_cons_self ..) hb) h4
            · rw [← h4]
              exact h3 a (List.mem_cons_self ..) (by rw [h4]; exact hn)
            · exact absurd h4 h
          · exact h3 y (List.mem_cons_of_mem _ hy) hn
theorem maxD_ty [o : Od e lt] : ∀ (xs : List α) (a : α), ∃ g, maxD (e a) (xs.map e) = e g ∧ most lt (a :: xs) g
  | [], a => ⟨a, rfl, List.mem_cons_self .., fun y hy hn => absurd (List.mem_singleton.mp hy) hn⟩
  | b :: xs, a => by
    have e1 : maxD (e a) ((b :: xs).map e) = maxD (if dataLt (e a) (e b) = true then e b else e a) (xs.map e) := rfl
    rw [e1, o.lts]
    by_cases h : lt a b = true
    · rw [if_pos h]
      obtain ⟨g, h1, h2, h3⟩ := maxD_ty xs b
      refine ⟨g, h1, List.mem_cons_of_mem _ h2, fun y hy hn => ?_⟩
      rcases List.mem_cons.mp hy with rfl | hy
      · by_cases hb : b = g
        · rw [← hb]; exact h
        · exact o.trans h (h3 b (List.mem_cons_self ..) hb)
      · exact h3 y hy hn
    · rw [if_neg h]
      obtain ⟨g, h1, h2, h3⟩ := maxD_ty xs a
      refine ⟨g, h1, ?_, fun y hy hn => ?_⟩
      · rcases List.mem_cons.mp h2 with h2 | h2
        · rw [h2]; exact List.mem_cons_self ..
        · exact List.mem_cons_of_mem _ (List.mem_cons_of_mem _ h2)
      · rcases List.mem_cons.mp hy with rfl | hy
        · exact h3 y (List.mem_cons_self ..) hn
        · rcases List.mem_cons.mp hy with rfl | hy
          · rcases o.tri y a with h4 | h4 | h4
            · by_cases hb : a = g
              · rw [← hb]; exact h4
              · exact o.trans h4 (h3 a (List.mem_cons_self ..) hb)
            · rw [h4]
              exact h3 a (List.mem_cons_self ..) (by rw [← h4]; exact hn)
            · exact absurd h4 h
          · exact h3 y (List.mem_cons_of_mem _ hy) hn
theorem gMin_ty [h : Ty e n] [o : Od e lt] (hn : n ≤ 50) (hx : x.data = some (.list (xs.map e)) ∨ x.data = some (.tuple (xs.map e))) (h0 : xs ≠ []) (q : ∀ g, least lt xs g → Q (.pl (.d (e g)))) : gMin [x] Q := by
  cases xs with
  | nil => exact absurd rfl h0
  | cons a r =>
    obtain ⟨g, h1, h2⟩ := minD_ty (e := e) r a
    have ok : okMM ((a :: r).map e) := okMM_ty hn
    unfold gMin
    rcases hx with hx | hx
    · simp only [hx, List.map_cons]
      exact ⟨ok, by rw [h1]; exact q g h2⟩
    · simp only [hx, List.map_cons]
      exact ⟨ok, by rw [h1]; exact q g h2⟩
theorem gMax_ty [h : Ty e n] [o : Od e lt] (hn : n ≤ 50) (hx : x.data = some (.list (xs.map e)) ∨ x.data = some (.tuple (xs.map e))) (h0 : xs ≠ []) (q : ∀ g, most lt xs g → Q (.pl (.d (e g)))) : gMax [x] Q := by
  cases xs with
  | nil => exact absurd rfl h0
  | cons a r =>
    obtain ⟨g, h1, h2⟩ := maxD_ty (e := e) r a
    have ok : okMM ((a :: r).map e) := okMM_ty hn
    unfold gMax
    rcases hx with hx | hx
    · simp only [hx, List.map_cons]
      exact ⟨ok, by rw [h1]; exact q g h2⟩
    · simp only [hx, List.map_cons]
      exact ⟨ok, by rw [h1]; exact q g h2⟩
end
/-! ints: the least, the greatest -/
def minI : List Int → Int
  | [] => 0
  | x :: r => r.foldl min x
def maxI : List Int → Int
  | [] => 0
  | x :: r => r.foldl max x
theorem minI_least {xs : List Int} {g : Int} (h : least ltI xs g) : minI xs = g := by
  cases xs with
  | nil => cases h.1
  | cons a r =>
    refine foldl_min_eq h.1 fun y hy => ?_
    by_cases q : y = g
    · omega
    · have := h.2 y hy q
      unfold ltI at this
      have := of_decide_eq_true this
      omega
theorem maxI_most {xs : List Int} {g : Int} (h : most ltI xs g) : maxI xs = g := by
  cases xs with
  | nil => cases h.1
  | cons a r =>
    refine foldl_max_eq h.1 fun y hy => ?_
    by_cases q : y = g
    · omega
    · have := h.2 y hy q
      unfold ltI at this
      have := of_decide_eq_true this
      omega
section
variable {xs : List Int} {Q : TV → Prop}
theorem gMin_fI (h : xs ≠ []) : gMin [.fr (xs.map dI)] Q = Q (.pl (.d (.int (minI xs)))) := by
  cases xs with
  | nil => exact absurd rfl h
  | cons a r =>
    refine propext ⟨fun q => ?_, fun q => gMin_ints rfl rfl q⟩
    have e1 : minD (.int a) (r.map dI) = .int (minI (a :: r)) := minD_ints a r
    have q2 : okMM _ ∧ Q (pd (minD (.int a) (r.map dI))) := q
    rw [e1] at q2
    exact q2.2
theorem gMin_lI (h : xs ≠ []) : gMin [.lv (xs.map dI)] Q = Q (.pl (.d (.int (minI xs)))) := gMin_fI h
theorem gMin_pI (h : xs ≠ []) : gMin [.pl (.d (.list (xs.map dI)))] Q = Q (.pl (.d (.int (minI xs)))) := gMin_fI h
theorem gMin_tI (h : xs ≠ []) : gMin [.pl (.d (tpD dI xs))] Q = Q (.pl (.d (.int (minI xs)))) := by
  have e : gMin [.pl (.d (tpD dI xs))] Q = gMin [.fr (xs.map dI)] Q := by
    unfold gMin tpD
    simp only [data_pl, data_fr]
    cases xs <;> rfl
  rw [e, gMin_fI h]
theorem gMax_fI (h : xs ≠ []) : gMax [.fr (xs.map dI)] Q = Q (.pl (.d (.int (maxI xs)))) := by
  cases xs with
  | nil => exact absurd rfl h
  | cons a r =>
    refine propext ⟨fun q => ?_, fun q => gMax_ints rfl rfl q⟩
    have e1 : maxD (.int a) (r.map dI) = .int (maxI (a :: r)) := maxD_ints a r
    have q2 : okMM _ ∧ Q (pd (maxD (.int a) (r.map dI))) := q
    rw [e1] at q2
    exact q2.2
theorem gMax_lI (h : xs ≠ []) : gMax [.lv (xs.map dI)] Q = Q (.pl (.d (.int (maxI xs)))) := gMax_fI h
theorem gMax_pI (h : xs ≠ []) : gMax [.pl (.d (.list (xs.map dI)))] Q = Q (.pl (.d (.int (maxI xs)))) := gMax_fI h
theorem gMax_tI (h : xs ≠ []) : gMax [.pl (.d (tpD dI xs))] Q = Q (.pl (.d (.int (maxI xs)))) := by
  have e : gMax [.pl (.d (tpD dI xs))] Q = gMax [.fr (xs.map dI)] Q := by
    unfold gMax tpD
    simp only [data_pl, data_fr]
    cases xs <;> rfl
  rw [e, gMax_fI h]
end
theorem minI_is (xs : List Int) (h : xs ≠ []) : minI xs ∈ xs ∧ ∀ y ∈ xs, minI xs ≤ y := by
  cases xs with
  | nil => exact absurd rfl h
  | cons a r =>
    obtain ⟨g, _, h2⟩ := minD_ty (e := dI) r a
    rw [minI_least h2]
    refine ⟨h2.1, fun y hy => ?_⟩
    by_cases q : y = g
    · omega
    · have := h2.2 y hy q
      unfold ltI at this
      have := of_decide_eq_true this
      omega
theorem maxI_is (xs : List Int) (h : xs ≠ []) : maxI xs ∈ xs ∧ ∀ y ∈ xs, y ≤ maxI xs := by
  cases xs with
  | nil => exact absurd rfl h
  | cons a r =>
    obtain ⟨g, _, h2⟩ := maxD_ty (e := dI) r a
    rw [maxI_most h2]
    refine ⟨h2.1, fun y hy => ?_⟩
    by_cases q : y = g
    · omega
    · have := h2.2 y hy q
      unfold ltI at this
      have := of_decide_eq_true this
      omega
/-! ### the same, by _law_is of two -/
/-- data that repr can write, not long -/
def sml (k : Nat) (d : D) : Prop := rOk k d = true ∧ d.weight ≤ 100000
def rsp_isB (k : Nat) : Spec := sp2 fun a b Q => ∃ d, a = .d d ∧ b = .d d ∧ sml k d ∧ Q (vB true)
theorem nrsp_isB : ∀ rs Q, rsp_isB 0 rs Q → False
  | [], _, h => h
  | [_], _, h => h
  | [_, _], _, ⟨d, _, _, h, _⟩ => by cases d <;> cases h.1
  | _ :: _ :: _ :: _, _, h => h
theorem weight_mem : ∀ {ds : List D} {d : D}, d ∈ ds → d.weight ≤ PyData.weightAll ds
  | [], _, h => by cases h
  | a :: r, d, h => by
    rw [weightAll_cons]
    rcases List.mem_cons.mp h with h | h
    · rw [h]; omega
    · have := weight_mem h; omega
theorem is_allB (j : Nat) {ds : List D} {γ : Gam} {Q : TV → Prop} (h : ∀ d ∈ ds, rOk j d = true) (hz : PyData.weightAll ds ≤ 100000) (hγ : γ.length = 4) (q : Q (.pl (.d (.bool true)))) :
    lcD (bTup 2 (bCons (bName 2) (bCons (bName 3) bNil))) dYes (dCall (rsp_isB j) (dCons (dVar 2) (dCons (dVar 3) dNil))) γ (zipD ds ds) [] fun out => gAll [.fr out] Q := by
  rw [zip_self]
  refine lcD_const (.bool true) _ (by rw [List.length_map]; exact big _ (Nat.le_trans (wlen ds) hz)) (fun d hd' k1 hk => ?_) (gAll_true rfl q)
  obtain ⟨x, hx, rfl⟩ := List.mem_map.mp hd'
  match γ, hγ with
  | [g0, g1, g2, g3], _ =>
    simp [rsp_isB]
    exact ⟨⟨h x hx, Nat.le_trans (weight_mem hx) hz⟩, hk⟩
def cm_isB (R : Spec) : FS := (dSeq2 (dIf (dTru (dIsa (fun d => PyData.isTuple d || PyData.isList d) (dVar 1))) (dSeq2 (dIf (dOr (dB (dOp neT (dIsa PyData.isTuple (dVar 0)) (dIsa PyData.isTuple (dVar 1)))) (dNot (dTru (dIsa (fun d => PyData.isTuple d || PyData.isList d) (dVar 0))))) (dRet (dCon (.bool false))) dSkip)
  (dRet (dAndV (dOp eqT (dBlt gLen (dCons (dVar 0) dNil)) (dBlt gLen (dCons (dVar 1) dNil))) (dBlt gAll (dCons (dLc (dZip (dCons (dVar 0) (dCons (dVar 1) dNil))) (bTup 2 (bCons (bName 2) (bCons (bName 3) bNil))) [2, 3] dYes (dCall R (dCons (dVar 2) (dCons (dVar 3) dNil)))) dNil))))) dSkip)
  (dSeq2 (dIf (dOr (dB (dOp (isT false) (dVar 1) (dCon .none))) (dTru (dIsa PyData.isBool (dVar 1)))) (dRet (dIte (dB (dOp (isT false) (dVar 1) (dCon .none))) (dOp (isT false) (dVar 0) (dCon .none)) (dAndV (dIsa PyData.isBool (dVar 0)) (dOp eqT (dBlt gReprE (dCons (dVar 0) dNil)) (dBlt gReprE (dCons (dVar 1) dNil)))))) dSkip)
  (dSeq2 (dIf (dTru (dIsa PyData.isStr (dVar 1))) (dRet (dAndV (dIsa PyData.isStr (dVar 0)) (dOp eqT (dBlt gReprE (dCons (dVar 0) dNil)) (dBlt gReprE (dCons (dVar 1) dNil))))) dSkip)
  (dRet (dAndV (dIsa PyData.isInt (dVar 0)) (dAndV (dNotV (dIsa PyData.isBool (dVar 0))) (dOp eqT (dBlt gReprE (dCons (dVar 0) dNil)) (dBlt gReprE (dCons (dVar 1) dNil)))))))))
theorem cmeets_isB (j : Nat) : Meets 4 (cm_isB (rsp_isB j)) (rsp_isB (j + 1)) := meets2 fun a b Q ⟨d, ha, hb, h, q⟩ => by
  subst ha hb
  have ok := fun hk : j + 1 ≤ 60 => okRepr_of h.1 hk (Nat.le_trans h.2 (by decide))
  cases d with
  | int i =>
    have := h.1
    rw [rOk_i] at this
    have hi := of_decide_eq_true this
    simp [cm_isB, gam0, thenK_ap, hi]
    exact q
  | bool b => simp [cm_isB, gam0, thenK_ap]; exact q
  | none => simp [cm_isB, gam0, thenK_ap]; exact q
  | str z =>
    have h1 : okRepr (.str z) = true := okRepr_of (k := 1) (by have := h.1; rw [rOk_s] at this ⊢; exact this) (by decide) (Nat.le_trans h.2 (by decide))
    have h2 := shown_fits' h1
    have h3 : (reprText z).length ≤ sizeLine := h2
    simp [cm_isB, gam0, thenK_ap, h3]
    exact q
  | list ds =>
    have h1 := h.1
    rw [rOk_l, List.all_eq_true] at h1
    have h2 := h.2
    rw [weight_l] at h2
    simp [cm_isB, gam0, thenK_ap]
    exact is_allB j h1 h2 rfl q
  | tuple ds =>
    have h1 := h.1
    rw [rOk_t, List.all_eq_true] at h1
    have h2 := h.2
    rw [weight_t] at h2
    simp [cm_isB, gam0, thenK_ap]
    exact is_allB j h1 h2 rfl q
  | dict kvs => have := h.1; simp [rOk] at this
theorem sml_of {k n : Nat} {d : D} (h : rW k n d) (hn : n ≤ 100000) : sml k d := ⟨h.1, Nat.le_trans h.2 hn⟩
theorem sml_up {k j : Nat} {d : D} (h : sml k d) (hk : k ≤ j) : sml j d := ⟨rOk_mono hk h.1, h.2⟩
end DL

namespace DL
open PySem PySem.Spec PyProof.Rows L2 PySem.W
/-! ### index, count of typed lists -/
def ixO {α : Type} [DecidableEq α] : List α → α → Nat
  | [], _ => 0
  | x :: r, a => if x = a then 0 else ixO r a + 1
section
variable {α : Type} [DecidableEq α] {e : α → D} {n : Nat} {x y : TV} {Q : TV → Prop} {xs : List α} {a : α}
theorem findIdx_ty [h : Ty e n] : ∀ {xs : List α}, a ∈ xs → ((xs.map e).findIdx? fun z => PyData.eqv z (e a)) = some (ixO xs a)
  | [], h => by cases h
  | z :: r, h => by
    rw [List.map_cons, List.findIdx?_cons, eqv_ty, ixO]
    by_cases q : z = a
    · simp [q]
    · have : a ∈ r := by
        rcases List.mem_cons.mp h with h | h
        · exact absurd h.symm q
        · exact h
      rw [if_neg q, findIdx_ty this]
      simp [q]
theorem ixO_lt : ∀ {xs : List α}, a ∈ xs → ixO xs a < xs.length ∧ xs[ixO xs a]? = some a
  | [], h => by cases h
  | z :: r, h => by
    unfold ixO
    by_cases q : z = a
    · simp [q]
    · have : a ∈ r := by
        rcases List.mem_cons.mp h with h | h
        · exact absurd h.symm q
        · exact h
      rw [if_neg q]
      obtain ⟨h1, h2⟩ := ixO_lt this
      exact ⟨Nat.succ_lt_succ h1, by rw [List.getElem?_cons_succ]; exact h2⟩
theorem gIndex_ty [h : Ty e n] (hn : n ≤ 50) (hx : x.data = some (.list (xs.map e))) (hy : y.data = some (e a)) (ha : a ∈ xs) (hl : xs.length ≤ 100000) (q : Q (.pl (.d (.int (ixO xs a : Nat))))) : gIndex x y Q := by
  unfold gIndex
  simp only [hx, hy]
  refine ⟨?_, by rw [List.length_map]; exact big _ hl, ?_⟩
  · unfold okIn
    rw [plainAll_ty, h.plain, Bool.true_and, Bool.true_and]
    have := depthAll_ty (e := e) xs
    exact decide_eq_true (by show _ ≤ 60; omega)
  · rw [findIdx_ty ha]
    exact q
theorem gCountL_ty [h : Ty e n] (hn : n ≤ 50) (hx : x.data = some (.list (xs.map e))) (hy : y.data = some (e a)) (q : Q (.pl (.d (.int (xs.count a : Nat))))) : gCountL x y Q := by
  unfold gCountL
  simp only [hx, hy]
  refine ⟨?_, ?_⟩
  · unfold okIn
    rw [plainAll_ty, h.plain, Bool.true_and, Bool.true_and]
    have := depthAll_ty (e := e) xs
    exact decide_eq_true (by show _ ≤ 60; omega)
  · have e1 : ((xs.map e).countP fun z => PyData.eqv z (e a)) = xs.count a := by
      rw [List.countP_map, List.count]
      congr 1
      funext z
      show PyData.eqv (e z) (e a) = _
      rw [eqv_ty]
      exact (beq_dec z a).symm
    show Q (iv _)
    rw [e1]
    exact q
end
/-! ### lists in one order only -/
theorem perm_one {α : Type} {r : α → α → Prop} (irr : ∀ a, ¬ r a a) (trans : ∀ {a b c}, r a b → r b c → r a c) : ∀ {xs ys : List α}, xs.Pairwise r → ys.Pairwise r → (∀ a, a ∈ xs ↔ a ∈ ys) → xs = ys
  | [], [], _, _, _ => rfl
  | [], y :: ys, _, _, h => absurd ((h y).mpr (List.mem_cons_self ..)) (by simp)
  | x :: xs, [], _, _, h => absurd ((h x).mp (List.mem_cons_self ..)) (by simp)
  | x :: xs, y :: ys, hx, hy, h => by
    obtain ⟨hx1, hx2⟩ := List.pairwise_cons.mp hx
    obtain ⟨hy1, hy2⟩ := List.pairwise_cons.mp hy
    have e : x = y := by
      rcases List.mem_cons.mp ((h x).mp (List.mem_cons_self ..)) with e | e
      · exact e
      · rcases List.mem_cons.mp ((h y).mpr (List.mem_cons_self ..)) with e2 | e2
        · exact e2.symm
        · exact absurd (trans (hy1 x e) (hx1 y e2)) (irr y)
    subst e
    rw [perm_one irr trans hx2 hy2 fun a => ?_]
    constructor
    · intro ha
      rcases List.mem_cons.mp ((h a).mp (List.mem_cons_of_mem _ ha)) with e | e
      · exact absurd (hx1 a ha) (by rw [e]; exact irr x)
      · exact e
    · intro ha
      rcases List.mem_cons.mp ((h a).mpr (List.mem_cons_of_mem _ ha)) with e | e
      · exact absurd (hy1 a ha) (by rw [e]; exact irr x)
      · exact e
theorem asc_one {xs ys : List Int} (h : xs.Pairwise (· < ·)) (h' : ys.Pairwise (· < ·)) (hm : ∀ a, a ∈ xs ↔ a ∈ ys) : xs = ys := perm_one (fun a => Int.lt_irrefl a) (fun h1 h2 => Int.lt_trans h1 h2) h h' hm
/-! ### fractions -/
def csp_part : Spec := sp2 fun a b Q => onE dI a fun x => onE dI b fun y => x.natAbs < 1073741824 ∧ y.natAbs < 1073741824 ∧ Q (vI (Int.gcd x y : Nat))
def cm_part : FS := (dSeq2 (dPar [0, 1] (dCons (dBlt gAbs (dCons (dVar 0) dNil)) (dCons (dBlt gAbs (dCons (dVar 1) dNil)) dNil)))
  (dSeq2 (dWeak [] (dWh (dB (dOp neT (dVar 1) (dCon (.int 0)))) [] (dPar [0, 1] (dCons (dVar 1) (dCons (dOp subT (dVar 0) (dOp mulT (dVar 1) (dOp divT (dVar 0) (dVar 1)))) dNil)))))
  (dRetV 0)))
theorem abs_nat (x : Int) : (if x < 0 then -x else x) = (x.natAbs : Int) := by split <;> omega
theorem cmeets_part : Meets 2 cm_part csp_part := meets2 fun a b Q ⟨x, ha, y, hb, hx, hy, q⟩ => by
  subst ha hb
  simp [cm_part, gam0, thenK_ap, abs_nat]
  refine dWh_ok (fun n γ => ∃ c : Nat, γ = [.pl (vI (c : Int)), .pl (vI (n : Int))] ∧ n < 1073741824 ∧ Nat.gcd c n = Int.gcd x y) y.natAbs ⟨x.natAbs, rfl, hy, rfl⟩ ?_
  rintro n γ ⟨c, rfl, hn, hg⟩ K' nx ct bk rt
  simp
  by_cases h : n = 0
  · subst h
    simp [thenK_ap]
    rw [Nat.gcd_zero_right] at hg
    rw [hg]
    exact q
  · have h' : ¬ (n : Int) = 0 := by omega
    simp [h]
    rw [div_ii ⟨h', by omega⟩]
    simp
    rw [mul_ii (.inl ⟨by omega, by omega⟩)]
    simp
    have e : (c : Int) - (n : Int) * (c : Int).fdiv n = ((c % n : Nat) : Int) := by
      rw [Int.fdiv_eq_ediv_of_nonneg _ (by omega)]
      have := Int.emod_add_mul_ediv (c : Int) n
      rw [Int.natCast_emod]
      omega
    rw [e]
    refine nx (c % n) _ (Nat.mod_lt _ (by omega)) ⟨n, rfl, Nat.lt_trans (Nat.mod_lt _ (by omega)) hn, ?_⟩
    rw [← hg, Nat.gcd_comm, ← Nat.gcd_rec, Nat.gcd_comm]
/-- in lowest terms -/
def rat (t b : Int) : Int × Int := let g : Int := if 0 < b then (Int.gcd t b : Nat) else -(Int.gcd t b : Nat); (t.fdiv g, b.fdiv g)
def csp_ratio : Spec := sp2 fun a b Q => onE dI a fun x => onE dI b fun y => x.natAbs < 1073741824 ∧ y.natAbs < 1073741824 ∧ y ≠ 0 ∧ Q (.d (p2 dI dI (rat x y)))
def cm_ratio : FS := (dSeq2 (dAsg 2 (dCall csp_part (dCons (dVar 0) (dCons (dVar 1) dNil))))
  (dSeq2 (dAsg 2 (dIte (dB (dOp (ltT gt_) (dVar 1) (dCon (.int 0)))) (dVar 2) (dNeg (dVar 2))))
  (dRet (dTup (dCons (dOp divT (dVar 0) (dVar 2)) (dCons (dOp divT (dVar 1) (dVar 2)) dNil))))))
theorem gcd_bd {x y : Int} (h : y ≠ 0) : 0 < Int.gcd x y ∧ Int.gcd x y ≤ y.natAbs := by
  have h1 : Int.gcd x y ≠ 0 := fun z => h (Int.gcd_eq_zero_iff.mp z).2
  have h2 : Int.gcd x y ∣ y.natAbs := Nat.gcd_dvd_right ..
  exact ⟨by omega, Nat.le_of_dvd (by omega) h2⟩
theorem cmeets_ratio : Meets 3 cm_ratio csp_ratio := meets2 fun a b Q ⟨x, ha, y, hb, hx, hy, h0, q⟩ => by
  subst ha hb
  obtain ⟨g0, g1⟩ := gcd_bd (x := x) h0
  simp [cm_ratio, gam0, thenK_ap, csp_part, hx, hy]
  by_cases h : 0 < y
  · simp [h]
    rw [div_ii ⟨by omega, by omega⟩, div_ii ⟨by omega, by omega⟩]
    simp
    unfold rat at q
    simp [h] at q
    exact q
  · simp [h]
    rw [div_ii ⟨by omega, by omega⟩, div_ii ⟨by omega, by omega⟩]
    simp
    unfold rat at q
    simp [h] at q
    exact q
/-! ### None, or data -/
def optR {α : Type} (e : α → D) : Option α → RV
  | none => vN
  | some x => .d (e x)
@[simp] theorem optR_n {α : Type} {e : α → D} : optR e none = vN := rfl
@[simp] theorem optR_s {α : Type} {e : α → D} {x : α} : optR e (some x) = .d (e x) := rfl
def optD {α : Type} (e : α → D) : Option α → D
  | none => .none
  | some x => e x
@[simp] theorem optD_n {α : Type} {e : α → D} : optD e none = .none := rfl
@[simp] theorem optD_s {α : Type} {e : α → D} {x : α} : optD e (some x) = e x := rfl
theorem optR_d {α : Type} {e : α → D} {o : Option α} : optR e o = .d (optD e o) := by cases o <;> rfl
theorem rW_o {α : Type} {e : α → D} {k n : Nat} {o : Option α} (h : ∀ x, o = some x → rW (k + 1) n (e x)) : rW (k + 1) n (optD e o) := by
  cases o with
  | none => exact ⟨by simp, by simp⟩
  | some x => exact h x rfl
end DL

namespace DL
open PySem PySem.Spec PyProof.Rows L2 PySem.W
/-! ### {k: v for .. in .. if ..}, keys ints, texts, tuples of such -/
/-- the heap behind a key's write, the empty dict being of either kind -/
def KPut (H : Hp) (D : Addr) (y z : V) (N : Hp → Prop) : Prop := (∃ H', DPut H D y z H' ∧ N H') ∨ (H D = some (.dK []) ∧ ∃ H', DPut (L2.upd H D (.dT [])) D y z H' ∧ N H') ∨ (H D = some (.dT []) ∧ ∃ H', DPut (L2.upd H D (.dK [])) D y z H' ∧ N H')
theorem KPut.imp {H : Hp} {D : Addr} {y z : V} {N N' : Hp → Prop} (h : KPut H D y z N) (k : ∀ H', N H' → N' H') : KPut H D y z N' := by
  rcases h with ⟨H', a, b⟩ | ⟨e, H', a, b⟩ | ⟨e, H', a, b⟩
  · exact .inl ⟨H', a, k _ b⟩
  · exact .inr (.inl ⟨e, H', a, k _ b⟩)
  · exact .inr (.inr ⟨e, H', a, k _ b⟩)
section
variable {X : Cx} {pins : List (Addr × Obj)} {σ : L2.St} {H : Hp} {s : Shared} {E : Value → Shared → Prop} {D : Addr} {y v : V} {u r : Value} {Q : Unit → Shared → Prop}
theorem dset_put {A : Around} {H' : Hp} (hu : A.units + 64 < cLine) (I : Inv X pins σ H s) (g : DPut H D y v H') (ry : L2.RelV y u) (rv : L2.RelV v r) (h : ∀ s', Inv X pins σ H' s' → Q () s') : wpAny (model X.prog X.w) A (dictSet D u r) Q E s := by
  rcases g with ⟨kvs, k, e, ey, l, eH⟩ | ⟨kvs, k, b, e, ey, eb, l, eH⟩
  · subst ey eH
    obtain ⟨z, hd, vs, rel, dd⟩ := dk_of I.hok e
    have hl : (putK kvs k v).length ≤ sizeLine := by have := length_putK kvs k v; omega
    refine wpAny_dictSet_pairs (hsz := by rw [← rel.length]; exact z) (kV_is ry) dd fun h' dd' hs => h _ (d_write I (by rw [e]; exact True.intro) hs (let ⟨q, _, _, hq, _⟩ := dd'; ⟨q, hq⟩) (dk_new hl hd (rel.put k rv) dd'))
  · subst ey eH
    cases (show u = Value.ref b from ry)
    obtain ⟨z, hd, xs, rel, dd⟩ := dt_of I.hok e
    have hl : (putK kvs k v).length ≤ sizeLine := by have := length_putK kvs k v; omega
    refine wpAny_dictSet_heap (hsz := by rw [← Paired.length rel]; exact z) (show A.units < cLine by omega) (key_of I.hok eb) dd fun h' dd' hs => h _ ?_
    obtain ⟨q, es, ep, hq, h2, h3, h4, _, h5⟩ := dd'
    refine d_write I (by rw [e]; exact True.intro) hs ⟨q, hq⟩ ⟨hl, hd, _, (rel.put k eb rv).keeps fun c ys ec => ?_, q, es, ep, hq, h2, h3, h4, h5⟩
    rw [upd_ne (ne_of ec e (fun z => nomatch z))]
    exact ec
theorem dset_k {N : Hp → Prop} {A : Around} (hu : A.units + 64 < cLine) (I : Inv X pins σ H s) (g : KPut H D y v N) (ry : L2.RelV y u) (rv : L2.RelV v r) (h : ∀ s' H', N H' → Inv X pins σ H' s' → Q () s') : wpAny (model X.prog X.w) A (dictSet D u r) Q E s := by
  rcases g with ⟨H', g, n⟩ | ⟨e, H', g, n⟩ | ⟨e, H', g, n⟩
  · exact dset_put hu I g ry rv fun s' I' => h s' H' n I'
  · exact dset_put hu (k2t I e) g ry rv fun s' I' => h s' H' n I'
  · exact dset_put hu (t2k I e) g ry rv fun s' I' => h s' H' n I'
end
section
variable {X : Cx}
/-- the walk of such a display: D the new dict -/
def tKc (wi : TI) (g : TG) (tt : TT) (tk tv : TE) (vs : List Nat) : TE := fun σ H Q => wi σ H fun J H1 => ∀ D, H1 D = none → ∃ W : Nat → Nat → Hp → Prop, (∃ m, W 0 m (L2.upd H1 D (.dK []))) ∧ ∀ i m H, W i m H →
  (J.stop i H ∧ Q (.ref D) H) ∨ (J.go i H ∧ ∃ Nx : Hp → Prop, (∀ H', Nx H' → ∃ m', m' < m ∧ W (i + 1) m' H') ∧ ∀ x H', J.yld i H x H' → g x (L2.wipe σ vs) H' fun σ2 H2 => L2.wipe σ2 vs = L2.wipe σ vs ∧ tt σ2 H2 fun b H3 =>
    if b = true then tk σ2 H3 fun y H4 => tv σ2 H4 fun z H5 => KPut H5 D y z Nx else Nx H3)
theorem pe_kc {kx vx tg iter : Expr} {ifs : List Expr} {scope : Scope} {own : List (Str × Nat)} {pos : Pos} {wi : TI} {g : TG} {tt : TT} {tk tv : TE} (hu : X.A.units + 64 < cLine) (hc : X.calm = true) (hN : X.N.Nodup) (hi : PI X tg iter wi) (ok : BlkOk X.N X.env.scope scope own)
    (hg : ∀ (s : Shared) (H : Hp) (C : Addr) (cl : List (Str × Addr)) (fp : List Addr), PG (X.blk s H scope (compEnvC scope cl C X.env) fp) tg g) (ht : ∀ (s : Shared) (H : Hp) (C : Addr) (cl : List (Str × Addr)) (fp : List Addr), PTs (X.blk s H scope (compEnvC scope cl C X.env) fp) ifs tt)
    (hk : ∀ (s : Shared) (H : Hp) (C : Addr) (cl : List (Str × Addr)) (fp : List Addr), PE (X.blk s H scope (compEnvC scope cl C X.env) fp) kx tk)
    (he : ∀ (s : Shared) (H : Hp) (C : Addr) (cl : List (Str × Addr)) (fp : List Addr), PE (X.blk s H scope (compEnvC scope cl C X.env) fp) vx tv) (hs : ∀ x, foldedSetIterable iter X.env x = pure x) :
    PE X (.DictComp kx vx [⟨tg, iter, ifs, 0⟩] scope pos) (tKc wi g tt tk tv (own.map (·.2))) := by
  refine ⟨fun pins s σ H Q I h => ?_⟩
  rw [arm_eval_DictComp]
  have hfree : ∀ y ∈ scope.names, y.2 = .free → ∃ c, X.env.cells.lookup y.1 = some c := fun y hy e => (ok.free y hy e).elim (fun k => I.ok.has _ (.inl k)) fun k => I.ok.has _ (.inr k)
  refine wpAny_comprehension_free rfl hs (closure_ok hfree) ok.kind (fun y hy e => by rw [ok.uniq y hy, e]) (thn (hi.run pins s σ H _ I h) fun xv s1 hx => thn hx fun itv s2 ⟨it, fp, tn, J, H2, e, I2, T, st2, f2, q⟩ => ?_)
  subst e
  refine wpAny_newObj_type (newEnv_comp ?_)
  generalize hD : s2.heap.objs.size = D
  have hDn : H2 D = none := I2.hok.fresh (Nat.le_of_eq hD)
  obtain ⟨W, ⟨m0, w0⟩, turn⟩ := q D hDn
  generalize hs3 : ({ s2 with heap := s2.heap.push { cls := .type "dict", data := .dict #[] } } : Shared) = s3
  have h3 : s3.heap = s2.heap.push { cls := .type "dict", data := .dict #[] } := by rw [← hs3]
  have I3 : Inv X pins σ (L2.upd H2 D (.dK [])) s3 := by
    rw [← hs3]
    refine I2.laid (t' := s2.toks) (fun b o e => Heap.get?_push_of_some _ e) (Nat.le_of_eq hD) ?_
    rw [← hD]
    exact dk_empty s2.heap I2.big
  have f3 : ∀ b ∈ fp, FpOk X pins (L2.upd H2 D (.dK [])) b ∧ b < s3.heap.objs.size := fun b hb => by
    obtain ⟨o, e, _⟩ := T.obj _ _ st2 b hb
    have hlt := Heap.lt_size e
    refine ⟨⟨?_, (f2 b hb).2⟩, by rw [h3, Heap.size_push]; exact Nat.lt_succ_of_lt hlt⟩
    rw [upd_ne (by rw [← hD]; exact Nat.ne_of_lt hlt)]
    exact (f2 b hb).1
  have st3 : tn 0 s3.heap := T.keep _ _ _ st2 fun b _ o e => by rw [h3]; exact Heap.get?_push_of_some _ e
  have I4 := block_start I3 ok hN f3
  have parts := fun (C : Addr) (cl : List (Str × Addr)) => And.intro (hg s3 (L2.upd H2 D (.dK [])) C cl fp) (And.intro (ht s3 (L2.upd H2 D (.dK [])) C cl fp) (And.intro (hk s3 (L2.upd H2 D (.dK [])) C cl fp) (he s3 (L2.upd H2 D (.dK [])) C cl fp)))
  obtain ⟨pg, pt, pk, pe⟩ := parts s3.heap.objs.size (cellsFrom (s3.heap.objs.size + 1) scope.names (cloFrom X.env.cells scope.names []))
  show codeAny _ _ (.compStart (.DictComp kx vx [⟨tg, iter, ifs, 0⟩] scope pos) 0 (.ref it) (.ref D) (compEnvC scope (cellsFrom (s3.heap.objs.size + 1) scope.names (cloFrom X.env.cells scope.names [])) s3.heap.objs.size X.env)) _ { s3 with heap := pushCells (s3.heap.push { cls := .type "dict", data := .dict #[] }) scope.names }
  have nfp : ∀ b ∈ fp, (L2.upd H2 D (.dK [])) b = none := fun b hb => (f3 b hb).1.1
  generalize hce : compEnvC scope (cellsFrom (s3.heap.objs.size + 1) scope.names (cloFrom X.env.cells scope.names [])) s3.heap.objs.size X.env = ce at I4 pg pt pk pe ⊢
  have cL : ce.locals = s3.heap.objs.size := by subst hce; rfl
  generalize hH3 : L2.upd H2 D (.dK []) = H3 at I3 I4 pg pt pk pe w0 nfp f3
  generalize hs4 : ({ s3 with heap := pushCells (s3.heap.push { cls := .type "dict", data := .dict #[] }) scope.names } : Shared) = s4 at I4 ⊢
  have st4 : tn 0 s4.heap := T.keep _ _ _ st3 fun b _ o e => by rw [← hs4]; exact pushCells_keeps _ _ _ _ (Heap.get?_push_of_some _ e)
  have stat : ∀ {σ' : L2.St} {H' : Hp} {s' : Shared}, Inv (X.blk s3 H3 scope ce fp) [] σ' H' s' → (∀ b ∈ fp, H' b = none) → ∀ b ∈ fp, FpOk (X.blk s3 H3 scope ce fp) [] H' b := fun {σ' H' s'} I' hn b hb =>
    ⟨hn b hb, (I'.ok.exf b hb).1, I'.ok.exfs b hb, .inl hb, fun x c e => (I'.ok.exf b hb).2 x c e, fun p hp => absurd (show p ∈ ([] : List (Addr × Obj)) ++ [] from hp) (by simp)⟩
  refine codeAny_compStart_dict ?_ (T.self X.A 0 _ _ _ st4 ?_) <;>
  · refine compLoop_anyD (fun n s' => ∃ i H', Inv (X.blk s3 H3 scope ce fp) [] (L2.wipe σ (own.map (·.2))) H' s' ∧ tn i s'.heap ∧ (∀ b ∈ fp, H' b = none) ∧ W i n H') ?_ m0 ⟨0, H3, I4, st4, nfp, w0⟩
    rintro n s5 ⟨i, H5, I5, st5, n5, w5⟩
    rcases turn i n H5 w5 with ⟨stop, qq⟩ | ⟨go, Nx, hNx, step⟩
    · refine thnF (T.done (X.blk s3 H3 scope ce fp) rfl rfl rfl hc i [] s5 _ H5 (fun _ _ => False) I5 (stat I5 n5) st5 stop) fun r s6 ⟨hr, I6⟩ => ?_
      subst hr
      have I7 : Inv X pins σ H5 s6 := I3.call' (ch := fp) I6.os I6.base I6.hok I6.bare fun b hb => ⟨(f3 b hb).1.2.2.2.1, (f3 b hb).1.2.1, (f3 b hb).1.2.2.2.2.1, (f3 b hb).1.2.2.2.2.2⟩
      have nC : H5 s3.heap.objs.size = none := by rw [← cL]; exact I6.free
      obtain ⟨m, hn, _⟩ := I6.loc
      have hn : s6.heap.Ns ce.locals m := hn
      rw [cL] at hn
      obtain ⟨f0, f1, f2, f3, f4, f5⟩ := I3.fpOk (Nat.le_refl _) nC
      exact ⟨m, hn, fun h'' sb => ⟨.ref D, H5, I7.turned (t' := s6.toks) (fun b o hb e => (sb.2 b hb).trans e) f0 f1 f3 f4 f5, rfl, qq⟩⟩
    · refine thnF (T.item (X.blk s3 H3 scope ce fp) rfl rfl rfl hc i [] s5 _ H5 (fun _ _ => False) I5 (stat I5 n5) st5 go) fun r s6 ⟨u, hr, h6⟩ => ?_
      subst hr
      refine thnF h6 fun _ s7 ⟨x, H7, I7, r7, y7, st7, n7⟩ => ?_
      have I7' := I7.pinned (stat I7 n7) (T.obj _ _ st7)
      refine thnF (pg.run _ s7 _ H7 x u _ I7' r7 (step x H7 y7)) fun _ s8 ⟨σ8, H8, I8, hw8, q8⟩ => thnF (pt.run _ s8 σ8 H8 _ I8 q8) fun b s9 ⟨H9, I9, q9⟩ => ?_
      have fin : ∀ {s' : Shared} {H' : Hp}, Inv (X.blk s3 H3 scope ce fp) ([] ++ pinsAt fp s7.heap) σ8 H' s' → Nx H' → ∃ m, m < n ∧ ∃ i H', Inv (X.blk s3 H3 scope ce fp) [] (L2.wipe σ (own.map (·.2))) H' s' ∧ tn i s'.heap ∧ (∀ b ∈ fp, H' b = none) ∧ W i m H' := fun {s' H'} I' nx => by
        obtain ⟨m', hm, w'⟩ := hNx H' nx
        have pin' : ∀ b ∈ fp, ∀ o, s7.heap.get? b = some o → s'.heap.get? b = some o ∧ H' b = none := fun b hb o e =>
          let z := I'.pin (b, o) (List.mem_append_right _ (List.mem_append_right _ (mem_pinsAt hb e)))
          ⟨z.1, z.2.1⟩
        refine ⟨m', hm, i + 1, H', (I'.unpinned (pins := [])).weak (by rw [← hw8, wipe_length]) (fun j v e => ?_), T.keep _ _ _ st7 fun b hb o e => (pin' b hb o e).1, fun b hb => ?_, w'⟩
        · rw [← hw8] at e
          exact (wipe_some e).1
        · obtain ⟨o, e, _⟩ := T.obj _ _ st7 b hb
          exact (pin' b hb o e).2
      cases b with
      | false =>
        simp only [Bool.false_eq_true, if_false] at q9 ⊢
        exact fin I9 q9
      | true =>
        simp only [if_true] at q9 ⊢
        exact thnF (pk.run _ s9 σ8 H9 _ I9 q9) fun z s10 ⟨yk, H10, I10, r10, q10⟩ => thnF (pe.run _ s10 σ8 H10 _ I10 q10) fun z2 s11 ⟨yv, H11, I11, r11, g⟩ => dset_k (X := X.blk s3 H3 scope ce fp) hu I11 g r10 r11 fun s12 H12 nx I12 => fin I12 nx
end
end DL

namespace DL
open PySem PySem.Spec PyProof.Rows L2 PySem.W
/-- one key more -/
def addD (kvs : List (D × D)) (k d : D) : Option (List (D × D)) := if keyOk k = true ∧ (kvs = [] ∨ allIT kvs (isTup k) = true) ∧ kvs.length < sizeLine then some (putD kvs k d) else none
def kcD (b : BT) (fc : FT) (fk fv : FE) (γ : Gam) : List D → List (D × D) → (List (D × D) → Prop) → Prop
  | [], acc, k => k acc
  | d :: ds, acc, k => onS (b d γ) fun γ2 => fc γ2 fun c => if c = true then fk γ2 fun tk => onS tk.data fun kd => keyOk kd = true ∧ fv γ2 fun tv => onS tv.plain fun x => onS (addD acc kd x) fun acc' => kcD b fc fk fv γ ds acc' k else kcD b fc fk fv γ ds acc k
def dKc (fi : FI) (b : BT) (vs : List Nat) (fc : FT) (fk fv : FE) : FE := fun γ Q => fi γ fun ds _ => kcD b fc fk fv (wipeG γ vs) ds [] fun out => Q (.fd out)
theorem asKeys_imm : ∀ {ds : List D}, (asKeys ds).isSome = true → imms ds = true
  | [], _ => rfl
  | d :: ds, h => by
    rw [asKeys] at h
    cases e : asKey d with
    | none => rw [e] at h; cases h
    | some k =>
      rw [e] at h
      cases e2 : asKeys ds with
      | none => rw [e2] at h; cases h
      | some ks =>
        rw [imms, Bool.and_eq_true]
        refine ⟨?_, asKeys_imm (by rw [e2]; rfl)⟩
        cases d <;> first | rfl | (cases e)
theorem keyOk_imm {d : D} (h : keyOk d = true) : imm d = true := by
  cases d with
  | int i => rfl
  | str x => rfl
  | tuple ds => exact asKeys_imm h
  | _ => cases h
section
variable {K : PySem.W.Frag} {P : Pd} {H : Hp} {D0 : Addr} {y z : V} {kd xd : D} {acc acc' : List (D × D)}
/-- the write of a key into the new dict -/
theorem kput_of (h2 : DcAt K P H D0 acc) (np : ¬ P D0) (rk : Rep K TrueP H y kd) (rv : Rep K P H z xd) (e : addD acc kd xd = some acc') : ∃ H', (∃ o, H D0 = some o ∧ (∀ xs, o ≠ .tup xs)) ∧ KPut H D0 y z (fun H1 => H1 = H') ∧ (∃ o', H' = L2.upd H D0 o') ∧ DcAt K P H' D0 acc' := by
  unfold addD at e
  split at e
  · rename_i hk
    cases e
    obtain ⟨ko, sh, hz⟩ := hk
    rcases keyOk_cases ko with ⟨kk, rfl, ht⟩ | ⟨kk, rfl, ht⟩
    · obtain rfl := rep_key rk
      rcases h2 with ⟨l, hp, e1, rs⟩ | ⟨l, hp, e1, rs⟩
      · obtain ⟨e2, r2⟩ := putD_of keyD eqv_key kk rv e1 rs
        have km := kept_upd (K := K) (P := P) np hp (fun xs z => by cases z) (.dK (putK l kk z))
        exact ⟨_, ⟨_, hp, fun xs z => by cases z⟩, .inl ⟨_, DPut.k hp (by rw [← setT_len e1]; exact hz), rfl⟩, ⟨_, rfl⟩, .inl ⟨_, upd_same, e2, Reps.kept km r2⟩⟩
      · have hl : l = [] := by
          rcases sh with rfl | sh
          · cases l with
            | nil => rfl
            | cons a b => cases e1
          · exact allIT_no e1 isTup_keyTD sh (by rw [ht]; decide)
        subst hl
        have hk0 : acc = [] := by
          cases acc with
          | nil => rfl
          | cons a b => cases e1
        subst hk0
        have km := kept_upd (K := K) (P := P) np hp (fun xs z => by cases z) (.dK (putK [] kk z))
        obtain ⟨e2, r2⟩ := putD_of keyD eqv_key kk rv (kvs := []) (l := []) rfl .nil
        exact ⟨_, ⟨_, hp, fun xs z => by cases z⟩, .inr (.inr ⟨hp, _, DPut.k upd_same (by decide), rfl⟩), ⟨.dK (putK [] kk z), upd_upd⟩, .inl ⟨_, by rw [upd_upd]; exact upd_same, e2, by rw [upd_upd]; exact Reps.kept km r2⟩⟩
    · obtain ⟨b, rfl, hb⟩ := rep_keyT rk
      rcases h2 with ⟨l, hp, e1, rs⟩ | ⟨l, hp, e1, rs⟩
      · have hl : l = [] := by
          rcases sh with rfl | sh
          · cases l with
            | nil => rfl
            | cons a b => cases e1
          · exact allIT_no e1 isTup_keyD sh (by rw [ht]; decide)
        subst hl
        have hk0 : acc = [] := by
          cases acc with
          | nil => rfl
          | cons a b => cases e1
        subst hk0
        have km := kept_upd (K := K) (P := P) np hp (fun xs z => by cases z) (.dT (putK [] kk z))
        have hbp : b ≠ D0 := fun z => by rw [z, hp] at hb; cases hb
        obtain ⟨e2, r2⟩ := putD_of keyTD eqv_keyT kk rv (kvs := []) (l := []) rfl .nil
        exact ⟨_, ⟨_, hp, fun xs z => by cases z⟩, .inr (.inl ⟨hp, _, DPut.t upd_same (by rw [upd_ne hbp]; exact hb) (by decide), rfl⟩), ⟨.dT (putK [] kk z), upd_upd⟩, .inr ⟨_, by rw [upd_upd]; exact upd_same, e2, by rw [upd_upd]; exact Reps.kept km r2⟩⟩
      · obtain ⟨e2, r2⟩ := putD_of keyTD eqv_keyT kk rv e1 rs
        have km := kept_upd (K := K) (P := P) np hp (fun xs z => by cases z) (.dT (putK l kk z))
        exact ⟨_, ⟨_, hp, fun xs z => by cases z⟩, .inl ⟨_, DPut.t hp hb (by rw [← setT_len e1]; exact hz), rfl⟩, ⟨_, rfl⟩, .inr ⟨_, upd_same, e2, Reps.kept km r2⟩⟩
  · cases e
end
section
variable {X : Cx} {hv : Hv} {kx vx tg iter : Expr} {ifs : List Expr} {scope : Scope} {own : List (Str × Nat)} {pos : Pos} {fi : FI} {b : BT} {is : List Nat} {fc : FT} {fk fv : FE}
theorem t_kc (hvs : ∀ i ∈ is, i ∈ own.map (·.2)) (σ : L2.St) (H : Hp) (Q : VK) (h : tD ⟨X.K, hv⟩ (dKc fi b (own.map (·.2)) fc fk fv) σ H Q) :
    tKc (tDI ⟨X.K, hv⟩ fi) (tDG ⟨X.K, hv⟩ is b) (tDT ⟨X.K, hv⟩ fc) (tD ⟨X.K, hv⟩ fk) (tD ⟨X.K, hv⟩ fv) (own.map (·.2)) σ H Q := by
  obtain ⟨γ, hd, P, Q0, S, f, k⟩ := h
  refine ⟨γ, hd, P, _, S, f, fun ds pl q hd1 P1 H1 Jt g1 ⟨w⟩ Da hDa => ?_⟩
  have S1 := S.grow g1
  have nD := g1.j.fresh hDa
  have std : ∀ {hd2 P2 H2}, Grow ⟨X.K, hv⟩ hd1 P1 H1 hd2 P2 H2 → Stand w.Pw H1 H2 := fun {hd2 P2 H2} g a o ho hs => by
    refine g.keep a o ho fun m => ?_
    rcases hs with hs | ⟨xs, rfl⟩
    · exact w.free a hs m
    · exact g1.j.hand.no ho (fun _ z => by cases z) (fun _ z => by cases z) m
  refine ⟨fun i m H => m = ds.length - i ∧ i ≤ ds.length ∧ ∃ hd2 P2 acc, Grow ⟨X.K, hv⟩ hd1 P1 H1 hd2 P2 H ∧ DcAt X.K P2 H Da acc ∧ ¬ P2 Da ∧ ¬ hdA hd2 Da ∧
    kcD b fc fk fv (wipeG γ (own.map (·.2))) (ds.drop i) acc (fun out => Q0 (.fd out)), ⟨ds.length, by omega, Nat.zero_le _, hd1, P1, [], Grow.upd g1.j hDa, .inl ⟨[], upd_same, rfl, .nil⟩, nD.1, nD.2, q⟩, ?_⟩
  rintro i m H2 ⟨rfl, hi, hd2, P2, acc, g2, hl, np, nh, q2⟩
  by_cases hlt : i < ds.length
  · refine .inr ⟨w.walk.goes i H2 hlt (w.good H2 (std g2)), fun H3 => ∃ hd3 P3 acc, Grow ⟨X.K, hv⟩ hd1 P1 H1 hd3 P3 H3 ∧ DcAt X.K P3 H3 Da acc ∧ ¬ P3 Da ∧ ¬ hdA hd3 Da ∧
      kcD b fc fk fv (wipeG γ (own.map (·.2))) (ds.drop (i + 1)) acc (fun out => Q0 (.fd out)), fun H3 h3 => ⟨ds.length - (i + 1), by omega, rfl, hlt, h3⟩, fun x H3 hy => ?_⟩
    obtain ⟨d, ed, g3, rd⟩ := w.item i H2 x H3 hd2 P2 (std g2) (g2.kept g1.j) g2.j hlt (w.walk.yields i H2 x H3 hlt (w.good H2 (std g2)) hy)
    have hdr : ds.drop i = d :: ds.drop (i + 1) := by
      obtain ⟨h1, h2⟩ := List.getElem?_eq_some_iff.mp ed
      rw [List.drop_eq_getElem_cons h1, h2]
    rw [hdr] at q2
    have q3 : onS (b d (wipeG γ (own.map (·.2)))) fun γ2 => fc γ2 fun c => if c = true then fk γ2 fun tk => onS tk.data fun kd => keyOk kd = true ∧ fv γ2 fun tv => onS tv.plain fun x => onS (addD acc kd x) fun acc' => kcD b fc fk fv (wipeG γ (own.map (·.2))) (ds.drop (i + 1)) acc' (fun out => Q0 (.fd out))
      else kcD b fc fk fv (wipeG γ (own.map (·.2))) (ds.drop (i + 1)) acc (fun out => Q0 (.fd out)) := q2
    obtain ⟨γ2, eb, q4⟩ := of_onS q3
    have g23 := g2.trans g1.j g3
    have S3 := ((S1.grow g23).wipe (own.map (·.2)))
    obtain ⟨o2, ho2, no2⟩ := hl.there
    refine ⟨_, hd2, P2, d, γ2, S3, rd, eb, fun σ2 S4 st => ⟨?_, γ2, hd2, P2, _, S4, q4, fun cb q5 hd5 P5 H5 g5 => ?_⟩⟩
    · have e1 := st (own.map (·.2)) hvs
      rw [e1]
      apply List.ext_getElem?
      intro k
      rw [wipe_get, wipe_get, wipe_length]
      by_cases hk : k ∈ own.map (·.2)
      · rw [if_pos hk, if_pos hk]
      · rw [if_neg hk, if_neg hk]
    · have g35 := g3.trans g2.j g5
      have g25 := g23.trans g1.j g5
      have hl5 : DcAt X.K P5 H5 Da acc := hl.kept (g35.kept g2.j) fun o h => g35.keep _ _ h nh
      have np5 := nnp g35 ho2 np
      have nh5 := nhd g35 ho2 nh
      have ho5 := g35.keep _ _ ho2 nh
      cases cb with
      | true =>
        refine iteT ⟨γ2, hd5, P5, _, S4.grow g5, q5, fun tk q6 yk hd6 P6 H6 g6 r6 => ?_⟩
        obtain ⟨kd, ek, hko, q6'⟩ := of_onS q6
        have rk6 := r6.rep ek
        refine ⟨γ2, hd6, P6, _, (S4.grow g5).grow g6, q6', fun t q7 y hd7 P7 H7 g7 r7 => ?_⟩
        obtain ⟨xd, ep, q7'⟩ := of_onS q7
        obtain ⟨acc', ea, q8⟩ := of_onS q7'
        obtain ⟨P8, m8, r8⟩ := Res.plain g7.j r7 ep
        have g8 := g7.more m8
        have g68 := g6.trans g5.j g8
        have rk8 : Rep X.K TrueP H7 yk kd := Rep.imm (fun a xs h => g8.tup g6.j h) rk6 (keyOk_imm hko)
        have hl8 : DcAt X.K P8 H7 Da acc := hl5.kept (g68.kept g5.j) fun o h => g68.keep _ _ h nh5
        have np8 : ¬ P8 Da := nnp g68 ho5 np5
        have nh8 := nhd g68 ho5 nh5
        have ho8 := g68.keep _ _ ho5 nh5
        have nc8 := hl8.nc ho8
        obtain ⟨H', _, kp, ⟨o', eH⟩, dc⟩ := kput_of hl8 np8 rk8 r8 ea
        subst eH
        exact kp.imp fun H'' e => by
          subst e
          exact ⟨hd7, P8, acc', (g25.trans g1.j g68).mut hDa np8 nh8 _ ho8, dc, np8, nh8, q8⟩
      | false => exact iteF ⟨hd5, P5, acc, g25, hl5, np5, nh5, q5⟩
  · have e : i = ds.length := by omega
    subst e
    rw [List.drop_eq_nil_of_le (Nat.le_refl _)] at q2
    refine .inl ⟨w.walk.stops H2 (w.good H2 (std g2)), ?_⟩
    exact k _ q2 _ hd2 P2 H2 (g1.trans S.j g2) ⟨Da, rfl, nh, hl, g1.free S.j hDa, np⟩
theorem de_kc (hu : X.A.units + 64 < cLine) (hc : X.calm = true) (hN : X.N.Nodup) (hi : DI hv X tg iter fi) (ok : blkC X.N X.env.scope scope own = true)
    (hg : ∀ (s : Shared) (H : Hp) (C : Addr) (cl : List (Str × Addr)) (fp : List Addr), DG hv (X.blk s H scope (compEnvC scope cl C X.env) fp) tg is b)
    (ht : ∀ (s : Shared) (H : Hp) (C : Addr) (cl : List (Str × Addr)) (fp : List Addr), DTs hv (X.blk s H scope (compEnvC scope cl C X.env) fp) ifs fc)
    (hk : ∀ (s : Shared) (H : Hp) (C : Addr) (cl : List (Str × Addr)) (fp : List Addr), DE hv (X.blk s H scope (compEnvC scope cl C X.env) fp) kx fk)
    (he : ∀ (s : Shared) (H : Hp) (C : Addr) (cl : List (Str × Addr)) (fp : List Addr), DE hv (X.blk s H scope (compEnvC scope cl C X.env) fp) vx fv)
    (hvs : ∀ i ∈ is, i ∈ own.map (·.2) := by decide) (hs : ∀ x, foldedSetIterable iter X.env x = pure x := by intro _; rfl) :
    DE hv X (.DictComp kx vx [⟨tg, iter, ifs, 0⟩] scope pos) (dKc fi b (own.map (·.2)) fc fk fv) :=
  pe_imp (pe_kc hu hc hN hi (blkOk_by ok) hg ht hk he hs) (t_kc hvs)
end
/-! ### what it makes -/
section
variable {γ : Gam} {b : BT} {fc : FT} {fk fv : FE} {k : List (D × D) → Prop}
@[simp] theorem ev_dKc {fi : FI} {vs : List Nat} {Q : TV → Prop} : dKc fi b vs fc fk fv γ Q = fi γ fun ds _ => kcD b fc fk fv (wipeG γ vs) ds [] fun out => Q (.fd out) := (rfl)
@[simp] theorem kcD_nil {acc : List (D × D)} : kcD b fc fk fv γ [] acc k = k acc := (rfl)
end
end DL

namespace DL
open PySem PySem.Spec PyProof.Rows L2 PySem.W
/-! ### dicts of typed keys, each True -/
class Ky {α : Type} (e : α → D) (t : outParam Bool) : Prop where
  ok : ∀ a, keyOk (e a) = true
  tup : ∀ a, isTup (e a) = t
instance : Ky dI false := ⟨fun _ => rfl, fun _ => rfl⟩
instance : Ky sD false := ⟨fun _ => rfl, fun _ => rfl⟩
theorem asKeys_ints : ∀ xs : List Int, (asKeys (xs.map dI)).isSome = true
  | [] => rfl
  | x :: xs => by
    have h := asKeys_ints xs
    rw [List.map_cons, asKeys]
    cases e : asKeys (xs.map dI) with
    | none => rw [e] at h; cases h
    | some ks => rfl
instance : Ky (tpD dI) true := ⟨fun xs => asKeys_ints xs, fun _ => rfl⟩
instance : Ky (p2 dI dI) true := ⟨fun _ => rfl, fun _ => rfl⟩
instance : Ky (p3 dI dI dI) true := ⟨fun _ => rfl, fun _ => rfl⟩
section
variable {α β : Type} [DecidableEq α] {e : α → D} {n : Nat} {t : Bool}
def ins1 (ks : List α) (x : α) : List α := if x ∈ ks then ks else ks ++ [x]
def uq (xs : List α) : List α := xs.foldl ins1 []
def kD (e : α → D) (ks : List α) : List (D × D) := ks.map fun a => (e a, .bool true)
@[simp] theorem kD_len {ks : List α} : (kD e ks).length = ks.length := List.length_map ..
@[simp] theorem kD_keys {ks : List α} : (kD e ks).map (·.1) = ks.map e := by unfold kD; rw [List.map_map]; rfl
theorem ins1_mem {ks : List α} {x y : α} : y ∈ ins1 ks x ↔ y ∈ ks ∨ y = x := by
  unfold ins1
  split
  · exact ⟨.inl, fun h => h.elim id fun e => e ▸ (by assumption)⟩
  · simp
theorem ins1_nd {ks : List α} {x : α} (h : ks.Nodup) : (ins1 ks x).Nodup := by
  unfold ins1
  split
  · exact h
  · rename_i hx
    rw [List.nodup_append]
    exact ⟨h, by simp, fun a ha b hb e => hx (by rw [List.mem_singleton] at hb; rw [← hb, ← e]; exact ha)⟩
theorem ins1_len {ks : List α} {x : α} : (ins1 ks x).length ≤ ks.length + 1 := by unfold ins1; split <;> simp
theorem foldl_ins : ∀ (xs ks : List α), (∀ y, y ∈ xs.foldl ins1 ks ↔ y ∈ ks ∨ y ∈ xs) ∧ (ks.Nodup → (xs.foldl ins1 ks).Nodup) ∧ (xs.foldl ins1 ks).length ≤ ks.length + xs.length
  | [], ks => ⟨fun y => by simp, id, by simp⟩
  | x :: xs, ks => by
    obtain ⟨h1, h2, h3⟩ := foldl_ins xs (ins1 ks x)
    refine ⟨fun y => ?_, fun h => h2 (ins1_nd h), ?_⟩
    · rw [List.foldl_cons, h1, ins1_mem, List.mem_cons, or_assoc]
    · rw [List.foldl_cons, List.length_cons]
      have := ins1_len (ks := ks) (x := x)
      omega
@[simp] theorem uq_mem {xs : List α} {y : α} : y ∈ uq xs ↔ y ∈ xs := by
  unfold uq
  rw [(foldl_ins xs []).1]
  simp
theorem uq_nd (xs : List α) : (uq xs).Nodup := (foldl_ins xs []).2.1 .nil
theorem uq_len (xs : List α) : (uq xs).length ≤ xs.length := by
  have := (foldl_ins xs []).2.2
  rw [List.length_nil, Nat.zero_add] at this
  exact this
theorem uq_self : ∀ {xs : List α}, xs.Nodup → uq xs = xs := fun {xs} h => by
  have : ∀ (xs ks : List α), (ks ++ xs).Nodup → xs.foldl ins1 ks = ks ++ xs := by
    intro xs
    induction xs with
    | nil => intro ks h; simp
    | cons x xs ih =>
      intro ks h
      have hx : x ∉ ks := fun z => by
        rw [List.nodup_append] at h
        exact h.2.2 x z x List.mem_cons_self rfl
      rw [List.foldl_cons, show ins1 ks x = ks ++ [x] from if_neg hx, ih (ks ++ [x]) (by simpa using h)]
      simp
  simpa [uq] using this xs [] (by simpa using h)
/-- two lists of the same things, each once, are as long -/
theorem nd_len {xs ys : List α} (hx : xs.Nodup) (hy : ys.Nodup) (h : ∀ a, a ∈ xs ↔ a ∈ ys) : xs.length = ys.length := Nat.le_antisymm (nodup_len hx fun y hy => (h y).mp hy) (nodup_len hy fun y hy => (h y).mpr hy)
theorem kD_any [hT : Ty e n] {ks : List α} {x : α} : ((kD e ks).any fun q => PyData.eqv q.1 (e x)) = decide (x ∈ ks) := by
  rw [← any_ty (e := e)]
  unfold kD
  rw [List.any_map, List.any_map]
  rfl
theorem kD_all [hK : Ky e t] {ks : List α} : allIT (kD e ks) t = true := by
  unfold allIT kD
  rw [List.all_map, List.all_eq_true]
  intro a ha
  show (isTup (e a) == t) = true
  rw [hK.tup]
  exact beq_self_eq_true t
theorem kD_put [hT : Ty e n] {ks : List α} {x : α} : putD (kD e ks) (e x) (.bool true) = kD e (ins1 ks x) := by
  unfold putD ins1
  rw [kD_any]
  by_cases h : x ∈ ks
  · rw [if_pos (by simpa using h), if_pos h]
    unfold kD
    rw [List.map_map]
    refine List.map_congr_left fun a ha => ?_
    show (if PyData.eqv (e a) (e x) = true then (e a, PyData.bool true) else (e a, PyData.bool true)) = _
    split <;> rfl
  · rw [if_neg (by simpa using h), if_neg h]
    unfold kD
    rw [List.map_append]
    rfl
theorem addD_k [hT : Ty e n] [hK : Ky e t] {ks : List α} {x : α} (hl : ks.length < sizeLine) : addD (kD e ks) (e x) (.bool true) = some (kD e (ins1 ks x)) := by
  unfold addD
  rw [if_pos ⟨hK.ok x, .inr (by rw [hK.tup]; exact kD_all), by rw [kD_len]; exact hl⟩, kD_put]
theorem setT_k [hT : Ty e n] [hK : Ky e t] {γ : Gam} {i : Nat} {ks : List α} {x : α} (h : γ[i]? = some (.od (kD e ks))) (hl : ks.length < 100000) : setT i (.bool true) (e x) γ = some (γ.set i (.od (kD e (ins1 ks x)))) := by
  unfold setT
  rw [h]
  show (if _ then _ else _) = _
  rw [if_pos ⟨hK.ok x, .inr (by rw [hK.tup]; exact kD_all), by rw [kD_len]; exact Nat.lt_of_lt_of_le hl (Nat.le_of_lt szl)⟩, kD_put]
/-- {f(x): True for x in xs if p(x)} -/
theorem kcT {ε : β → D} (p : β → Bool) (f : β → α) [hT : Ty e n] [hK : Ky e t] {b : BT} {fc : FT} {fk fv : FE} {γ : Gam} {k : List (D × D) → Prop} : ∀ (xs : List β) (ks : List α), xs.length + ks.length ≤ 100000 →
    (∀ x ∈ xs, ∀ (k1 : D → D → Prop) (k0 : Prop), (p x = true → k1 (e (f x)) (.bool true)) → (p x = false → k0) → onS (b (ε x) γ) fun γ2 => fc γ2 fun c => if c = true then fk γ2 fun tk => onS tk.data fun kd => keyOk kd = true ∧ fv γ2 fun tv => onS tv.plain fun x => k1 kd x else k0) →
    k (kD e (((xs.filter p).map f).foldl ins1 ks)) → kcD b fc fk fv γ (xs.map ε) (kD e ks) k
  | [], ks, _, _, q => q
  | x :: xs, ks, hl, h, q => by
    rw [List.length_cons] at hl
    refine h x List.mem_cons_self (fun kd d => onS (addD (kD e ks) kd d) fun acc' => kcD b fc fk fv γ (xs.map ε) acc' k) _ (fun hp => ?_) fun hp => ?_
    · rw [addD_k (Nat.lt_of_le_of_lt (by omega : ks.length ≤ 100000) szl)]
      refine kcT p f xs _ (by have := ins1_len (ks := ks) (x := f x); omega) (fun y hy => h y (List.mem_cons_of_mem _ hy)) ?_
      rw [List.filter_cons_of_pos hp] at q
      exact q
    · refine kcT p f xs ks (by omega) (fun y hy => h y (List.mem_cons_of_mem _ hy)) ?_
      rw [List.filter_cons_of_neg (by rw [hp]; decide)] at q
      exact q
/-- {x: True for x in xs} -/
theorem kcS [hT : Ty e n] [hK : Ky e t] {i : Nat} {γ : Gam} {k : List (D × D) → Prop} (xs : List α) (hl : xs.length ≤ 100000) (hi : i < γ.length) (q : k (kD e (uq xs))) : kcD (bName i) dYes (dVar i) (dCon (.bool true)) γ (xs.map e) [] k := by
  refine kcT (e := e) (ε := e) (fun _ => true) id xs [] (by simpa using hl) (fun x hx k1 k0 h1 _ => ?_) ?_
  · have h2 : (γ.set i (.pl (.d (e x))))[i]? = some (.pl (.d (e x))) := List.getElem?_set_self hi
    simp [bName, dYes, h2, hK.ok x]
    exact h1 rfl
  · rw [List.filter_eq_self.mpr fun _ _ => rfl, List.map_id]
    exact q
end
@[simp] theorem gLen_fd {kvs : List (D × D)} {Q : TV → Prop} : gLen [.fd kvs] Q = Q (.pl (.d (.int (kvs.length : Int)))) := (rfl)
@[simp] theorem gLen_dv {kvs : List (D × D)} {Q : TV → Prop} : gLen [.dv kvs] Q = Q (.pl (.d (.int (kvs.length : Int)))) := (rfl)
/-! ### lots_of: all ascending lots of k numbers below n -/
def nxt (l : List Int) : Int := if l = [] then 0 else l.getLastD 0 + 1
def lotsN (n : Nat) : Nat → List (List Int)
  | 0 => [[]]
  | k + 1 => (lotsN n k).flatMap fun l => (up (nxt l) ((n : Int) - nxt l).toNat).map fun x => l ++ [x]
def csp_lots : Spec := sp2 fun a b Q => onE dI a fun n => onE dI b fun k => 0 ≤ n ∧ n ≤ 1000 ∧ 0 ≤ k ∧ k ≤ 1000 ∧ (∀ j, j ≤ k.toNat → (lotsN n.toNat j).length ≤ 50000) ∧ Q (.d (.list ((lotsN n.toNat k.toNat).map (tpD dI))))
def cm_lots : FS := (dSeq2 (dAsg 2 (dLst (dCons (dTup dNil) dNil)))
  (dSeq2 (dWeak [3, 4, 5, 6] (dFor (dRng1 (dCons (dVar 1) dNil)) (bName 3) [3, 4, 5, 6] (dSeq2 (dAsg 4 (dLst dNil))
  (dSeq2 (dFrz [2] (dWeak [5, 6] (dFor (dSeq (dVar 2)) (bName 5) [5, 6] (dSeq2 (dAsg 6 (dIte (dB (dOp (ltT gt_) (dBlt gLen (dCons (dVar 5) dNil)) (dCon (.int 0)))) (dOp addT (dOp idxT (dVar 5) (dNeg (dCon (.int 1)))) (dCon (.int 1))) (dCon (.int 0))))
  (dExt 4 (dLc (dRng2 (dCons (dVar 6) (dCons (dVar 0) dNil))) (bName 7) [7] dYes (dOp addT (dVar 5) (dTup (dCons (dVar 7) dNil)))))))))
  (dFrz [4] (dAsg 2 (dVar 4)))))))
  (dRetV 2)))
theorem lotsN_ok {n : Nat} : ∀ {k : Nat} {l : List Int}, l ∈ lotsN n k → l.length = k ∧ (∀ x ∈ l, 0 ≤ x ∧ x < n) ∧ l.Pairwise (· < ·)
  | 0, l, h => by
    rw [lotsN, List.mem_singleton] at h
    subst h
    exact ⟨rfl, by simp, .nil⟩
  | k + 1, l, h => by
    rw [lotsN] at h
    obtain ⟨m, hm, h⟩ := List.mem_flatMap.mp h
    obtain ⟨x, hx, rfl⟩ := List.mem_map.mp h
    obtain ⟨h1, h2, h3⟩ := lotsN_ok hm
    have hx := up_mem.mp hx
    have hn : 0 ≤ nxt m := by
      unfold nxt
      split
      · exact Int.le_refl _
      · rename_i hm0
        have := (h2 (m.getLastD 0) (by
          rw [List.getLastD_eq_getLast?, List.getLast?_eq_some_getLast hm0]
          exact List.getLast_mem hm0)).1
        omega
    refine ⟨by rw [List.length_append, h1]; rfl, fun y hy => ?_, ?_⟩
    · rcases List.mem_append.mp hy with hy | hy
      · exact h2 y hy
      · rw [List.mem_singleton.mp hy]; omega
    · rw [List.pairwise_append]
      refine ⟨h3, by simp, fun a ha b hb => ?_⟩
      rw [List.mem_singleton.mp hb]
      have hm0 : m ≠ [] := fun z => by rw [z] at ha; cases ha
      unfold nxt at hx
      rw [if_neg hm0] at hx
      have hle : a ≤ m.getLastD 0 := by
        rw [List.getLastD_eq_getLast?, List.getLast?_eq_some_getLast hm0]
        rw [Option.getD_some]
        have e := List.dropLast_concat_getLast hm0
        rw [← e] at ha h3
        rcases List.mem_append.mp ha with ha | ha
        · exact Int.le_of_lt ((List.pairwise_append.mp h3).2.2 a ha _ (List.mem_singleton_self _))
        · rw [List.mem_singleton.mp ha]; exact Int.le_refl _
      omega
theorem atI_last {l : List Int} (h : l ≠ []) : atI l (-1) = some (l.getLastD 0) := by
  have hl : 0 < l.length := List.length_pos_iff.mpr h
  rw [List.getLastD_eq_getLast?, List.getLast?_eq_getElem?]
  unfold atI
  have e : ixN l.length (-1) = some (l.length - 1) := by
    unfold ixN
    rw [if_neg (by decide), if_pos (by omega)]
    congr 1
    omega
  rw [e]
  show l[l.length - 1]? = _
  rw [List.getElem?_eq_getElem (by omega)]
  rfl
theorem lots_step {n : Nat} {ls : List (List Int)} : ∀ r : List (List Int), ∀ p, ls = p ++ r → (p.flatMap fun l => (up (nxt l) ((n : Int) - nxt l).toNat).map fun x => l ++ [x]).length ≤ (ls.flatMap fun l => (up (nxt l) ((n : Int) - nxt l).toNat).map fun x => l ++ [x]).length := fun r p e => by
  rw [e, List.flatMap_append, List.length_append]
  omega
theorem cmeets_lots : Meets 8 cm_lots csp_lots := meets2 fun a b Q ⟨n, ha, k, hb, n0, n1, k0, k1, hl, q⟩ => by
  subst ha hb
  obtain ⟨N, rfl⟩ : ∃ N : Nat, n = N := ⟨n.toNat, by omega⟩
  obtain ⟨M, rfl⟩ : ∃ M : Nat, k = M := ⟨k.toNat, by omega⟩
  simp only [Int.toNat_natCast] at hl q
  unfold cm_lots
  refine step fun K hK => ?_
  simp [gam0]
  subst hK
  refine step fun K hK => ?_
  simp
  refine ⟨by omega, ?_⟩
  refine for_range (fun i γ => γ = [.pl (vI (N : Int)), .pl (vI (M : Int)), .pl (.d (.list ((lotsN N i).map (tpD dI)))), .non, .non, .non, .non, .non] ∨ γ = [.pl (vI (N : Int)), .pl (vI (M : Int)), .ol ((lotsN N i).map (tpD dI)), .non, .non, .non, .non, .non]) (.inr rfl) ?_ ?_
  · rintro i γ hi hγ
    have hb := hl i (by omega)
    have hb2 := hl (i + 1) (by omega)
    rcases hγ with rfl | rfl
    all_goals
      refine ⟨_, rfl, fun K' nx ct bk rt => ?_⟩
      clear ct bk rt
      refine step fun K2 hK2 => ?_
      simp
      subst hK2
      refine step fun K2 hK2 => ?_
      simp
      refine forS (tpD dI) (lotsN N i) (fun r γ => ∃ p s3, lotsN N i = p ++ r ∧ γ = [.pl (vI (N : Int)), .pl (vI (M : Int)), .pl (.d (.list ((lotsN N i).map (tpD dI)))), s3, .ol ((p.flatMap fun l => (up (nxt l) ((N : Int) - nxt l).toNat).map fun x => l ++ [x]).map (tpD dI)), .non, .non, .non]) ⟨[], _, rfl, rfl⟩ ?_ ?_
      · rintro l r γ ⟨p, s3, e, rfl⟩
        obtain ⟨l1, l2, l3⟩ := lotsN_ok (show l ∈ lotsN N i by rw [e]; simp)
        refine ⟨_, rfl, fun K3 nx3 ct bk rt => ?_⟩
        clear ct bk rt
        refine step fun K4 hK4 => ?_
        have fin : ∀ (lo : Int), lo = nxt l → (0 ≤ lo ∧ lo ≤ N) → K4 [.pl (vI (N : Int)), .pl (vI (M : Int)), .pl (.d (.list ((lotsN N i).map (tpD dI)))), s3, .ol ((p.flatMap fun l => (up (nxt l) ((N : Int) - nxt l).toNat).map fun x => l ++ [x]).map (tpD dI)), .pl (.d (tpD dI l)), .pl (vI lo), .non] := by
          rintro lo elo ⟨hlo, hln⟩
          subst hK4
          simp [thenK_ap, -List.length_flatMap, -List.length_map]
          refine ⟨by omega, ?_⟩
          rw [rangeD_up]
          refine lcMM dI (tpD dI) (fun x => l ++ [x]) (up lo ((N : Int) - lo).toNat) (by simp; omega) (fun x hx k1 hk1 => ?_) ?_
          · simp [tI1, add_tpD (e := dI) (xs := l) (ys := [x]) (by simp; omega)]
            exact hk1
          · have e2 : (p ++ [l]).flatMap (fun l => (up (nxt l) ((N : Int) - nxt l).toNat).map fun x => l ++ [x]) = (p.flatMap fun l => (up (nxt l) ((N : Int) - nxt l).toNat).map fun x => l ++ [x]) ++ (up lo ((N : Int) - lo).toNat).map fun x => l ++ [x] := by
              rw [List.flatMap_append, List.flatMap_singleton, elo]
            have h5 := lots_step (n := N) r (p ++ [l]) (show lotsN N i = (p ++ [l]) ++ r by rw [e]; simp)
            have h6 : ((lotsN N i).flatMap fun l => (up (nxt l) ((N : Int) - nxt l).toNat).map fun x => l ++ [x]).length ≤ 50000 := hb2
            rw [e2, List.length_append] at h5
            refine ⟨Nat.le_trans ?_ (Nat.le_of_lt szl), ?_⟩
            · rw [List.length_map, List.length_map]
              omega
            · refine nx3 _ ⟨p ++ [l], s3, by rw [e]; simp, ?_⟩
              rw [e2]
              simp
        by_cases h0 : l = []
        · subst h0
          simp
          exact fin 0 rfl ⟨by omega, by omega⟩
        · have hlp : 0 < l.length := List.length_pos_iff.mpr h0
          have hlp' : (0 : Int) < l.length := by omega
          have hm : l.getLastD 0 ∈ l := by
            rw [List.getLastD_eq_getLast?, List.getLast?_eq_some_getLast h0]
            exact List.getLast_mem h0
          have hz := l2 _ hm
          have fin2 := fin (l.getLastD 0 + 1) (by unfold nxt; rw [if_neg h0]) ⟨by omega, by omega⟩
          simp [hlp', atI_last h0]
          simp only [List.getLastD_eq_getLast?] at fin2
          rw [if_pos hlp]
          exact fin2
      · rintro γ ⟨p, s3, e, rfl⟩
        rw [List.append_nil] at e
        subst e
        subst hK2
        simp [thenK_ap]
        refine nx _ (.inl ?_)
        simp [lotsN]
  · rintro γ (rfl | rfl)
    · subst hK
      simp [thenK_ap]
      exact q
    · subst hK
      simp [thenK_ap]
      exact q
end DL

namespace DL
open PySem PySem.Spec PyProof.Rows L2 PySem.W
/-! ### dict(xs), xs a list of pairs -/
def pairD (q : D × D) : D := .tuple [q.1, q.2]
def dictD (ps : List (D × D)) : List (D × D) := ps.foldl (fun acc q => putD acc q.1 q.2) []
def gDictL : G1 := fun ts Q => match ts with
  | [a] => ∃ ps : List (D × D), a.data = some (.list (ps.map pairD)) ∧ ps.length ≤ sizeLine ∧ ((∀ q ∈ ps, keyOk q.1 = true ∧ isTup q.1 = false) ∨ (∀ q ∈ ps, keyOk q.1 = true ∧ isTup q.1 = true)) ∧ Q (.fd (dictD ps))
  | _ => False
section
variable {K : PySem.W.Frag} {P : Pd} {H : Hp}
/-- pairs stand at addresses -/
theorem reps_pairs {κ : Type} (f : κ → D) : ∀ {ps : List (D × D)} {vs : List V}, Reps K P H vs (ps.map pairD) → (∀ q ∈ ps, ∃ k, q.1 = f k) →
    ∃ (as : List Addr) (l : List (κ × V × V)), vs = as.map V.ref ∧ ps.map (·.1) = l.map (fun q => f q.1) ∧ Reps K P H (l.map fun q => q.2.2) (ps.map (·.2)) ∧ Reps K P H (l.map fun q => q.2.1) (l.map fun q => f q.1) ∧ Paired (fun a (q : κ × V × V) => H a = some (.tup [q.2.1, q.2.2])) as l
  | [], _, h, _ => by
    cases h
    exact ⟨[], [], rfl, rfl, .nil, .nil, .nil⟩
  | q :: ps, _, h, hk => by
    rw [List.map_cons] at h
    cases h with
    | cons r rs =>
      obtain ⟨as, l, rfl, e2, r3, r4, p5⟩ := reps_pairs f rs fun q hq => hk q (List.mem_cons_of_mem _ hq)
      obtain ⟨k, ek⟩ := hk q List.mem_cons_self
      cases r with
      | @tup a vs _ h1 h2 =>
        cases h2 with
        | @cons v1 _ _ _ r1 r2 =>
          cases r2 with
          | @cons v2 _ _ _ r2 r0 =>
            cases r0
            refine ⟨a :: as, (k, v1, v2) :: l, rfl, ?_, ?_, ?_, .cons h1 p5⟩
            · rw [List.map_cons, List.map_cons, e2, ek]
            · exact .cons r2 r3
            · have r1' : Rep K P H v1 (f k) := ek ▸ r1
              exact .cons r1' r4
/-- the pairs go in, one by one -/
theorem dict_put {κ : Type} [DecidableEq κ] (f : κ → D) (hf : ∀ a b, PyData.eqv (f a) (f b) = decide (a = b)) : ∀ {ps acc : List (D × D)} {l : List (κ × V)} {m : List (κ × V)},
    ps.map (·.1) = l.map (fun q => f q.1) → Reps K P H (l.map (·.2)) (ps.map (·.2)) → acc.map (·.1) = m.map (fun q => f q.1) → Reps K P H (m.map (·.2)) (acc.map (·.2)) →
    (ps.foldl (fun acc q => putD acc q.1 q.2) acc).map (·.1) = (l.foldl (fun m q => putK m q.1 q.2) m).map (fun q => f q.1) ∧ Reps K P H ((l.foldl (fun m q => putK m q.1 q.2) m).map (·.2)) ((ps.foldl (fun acc q => putD acc q.1 q.2) acc).map (·.2))
  | [], _, [], _, _, _, e, r => ⟨e, r⟩
  | [], _, _ :: _, _, e, _, _, _ => by cases e
  | _ :: _, _, [], _, e, _, _, _ => by cases e
  | p :: ps, acc, q :: l, m, e1, r1, e2, r2 => by
    rw [List.map_cons, List.map_cons] at e1
    obtain ⟨e3, e4⟩ := List.cons.inj e1
    rw [List.map_cons, List.map_cons] at r1
    cases r1 with
    | cons ra rb =>
      have e3 : p.1 = f q.1 := e3
      obtain ⟨e5, r5⟩ := putD_of f hf q.1 ra e2 r2
      rw [List.foldl_cons, List.foldl_cons, e3]
      exact dict_put f hf e4 rb e5 r5
end
section
variable {X : Cx} {pins : List (Addr × Obj)} {σ : L2.St} {H : Hp} {s : Shared} {P : Pd}
theorem tups_of (I : Inv X pins σ H s) : ∀ {as : List Addr} {l : List (List Key × V × V)}, Paired (fun a (q : List Key × V × V) => H a = some (.tup [q.2.1, q.2.2])) as l → Reps X.K P H (l.map fun q => q.2.1) (l.map fun q => keyTD q.1) →
    ∃ xs : List (List Key × Addr × Value), KT H (l.map fun q => (q.1, q.2.2)) xs ∧ Paired (fun a (x : List Key × Addr × Value) => IsTup s.heap a #[.ref x.2.1, x.2.2]) as xs
  | _, _, .nil, _ => ⟨[], .nil, .nil⟩
  | _, _, .cons (a := a) (b := q) h t, r => by
    rw [List.map_cons, List.map_cons] at r
    cases r with
    | cons ra rb =>
      obtain ⟨xs, k1, p1⟩ := tups_of I t rb
      obtain ⟨b, eb, hb⟩ := rep_keyT ra
      obtain ⟨its, rv, ht, _⟩ := I.tuple (SqT.of h)
      obtain ⟨u, y, ei, ru, ry⟩ := vals2 rv
      subst ei
      rw [eb] at ru
      obtain rfl : u = Value.ref b := ru
      exact ⟨(q.1, b, y) :: xs, .cons ⟨rfl, hb, ry⟩ k1, .cons ht p1⟩
theorem kt_all {H : Hp} : ∀ {l m : List (List Key × V)} {xs ys : List (List Key × Addr × Value)}, KT H l xs → KT H m ys → KT H (l.foldl (fun m q => putK m q.1 q.2) m) (storedAllH ys xs)
  | _, _, _, _, .nil, r => r
  | _, _, _, _, .cons (a := p) (b := x) h t, r => by
    rw [List.foldl_cons]
    have r2 := KT.put r p.1 h.2.1 h.2.2
    have e : ∀ ys zs : List (List Key × Addr × Value), storedAllH ys (x :: zs) = storedAllH (storedH ys x.1 x.2.1 x.2.2) zs := fun _ _ => rfl
    rw [e, ← h.1]
    exact kt_all t r2
theorem paired_at {α β : Type} {R : α → β → Prop} : ∀ {as : List α} {bs : List β}, Paired R as bs → ∀ (j : Nat) (b : β), bs[j]? = some b → ∃ a, as[j]? = some a ∧ R a b
  | _, _, .nil, j, b, e => by simp at e
  | _, _, .cons h t, 0, b, e => by
    rw [List.getElem?_cons_zero] at e
    cases e
    exact ⟨_, rfl, h⟩
  | _, _, .cons h t, j + 1, b, e => by
    rw [List.getElem?_cons_succ] at e
    obtain ⟨a, h1, h2⟩ := paired_at t j b e
    exact ⟨a, by rw [List.getElem?_cons_succ]; exact h1, h2⟩
end
section
variable {X : Cx} {hv : Hv}
theorem cd_dictL (hc : X.calm = true) (hu : X.A.units + 80 < cLine) : CallR X (.type "dict") (rDC ⟨X.K, hv⟩ gDictL) := by
  intro pins s σ H xs us Q I r ⟨hd, P, H0, ts, Q0, j, rs, q, k⟩
  unfold gDictL at q
  split at q
  · obtain ⟨v, rfl, r1⟩ := ress1 rs
    obtain ⟨ps, e1, hz, hk, q⟩ := q
    obtain ⟨p, vs, rfl, h1, q1⟩ := r1.lst e1
    have fin : ∀ (l0 : HO), (∀ (p0 : Addr), H p0 = none → ∀ P', Kept X.K P H P' (L2.upd H p0 l0) → DcAt X.K P' (L2.upd H p0 l0) p0 (dictD ps)) → ∀ p0, H p0 = none → Q (.ref p0) (L2.upd H p0 l0) := fun l0 hdc p0 hp0 => by
      have g := Grow.upd j (o := l0) hp0
      have np := j.fresh hp0
      exact k _ q (.ref p0) P _ g ⟨p0, rfl, np.2, hdc p0 hp0 P (g.kept j), hp0, np.1⟩
    rcases hk with hk | hk
    · obtain ⟨as, l, rfl, ek, r3, r4, pr⟩ := reps_pairs (f := keyD) q1 fun q hq => by
        obtain ⟨h2, h3⟩ := hk q hq
        rcases keyOk_cases h2 with ⟨kk, e, _⟩ | ⟨kk, _, ht⟩
        · exact ⟨kk, e⟩
        · rw [ht] at h3; cases h3
      refine call_dictP hc pins s σ H _ us Q I r ⟨p, as, l.map fun q => (q.1, q.2.2), rfl, SqL.of h1, ?_, ?_⟩
      · clear ek r3 q1 h1 e1
        induction pr with
        | nil => exact .nil
        | @cons a b as l h t ih =>
          rw [List.map_cons, List.map_cons] at r4
          cases r4 with
          | cons ra rb =>
            rw [rep_key ra] at h
            exact .cons (SqT.of h) (ih rb)
      · refine fin _ fun p0 hp0 P' kp => .inl ⟨_, upd_same, ?_⟩
        have hm := dict_put (K := X.K) (P := P) (H := H) keyD eqv_key (ps := ps) (acc := []) (l := l.map fun q => (q.1, q.2.2)) (m := []) (by rw [ek, List.map_map]; rfl) (by rw [List.map_map]; exact r3) rfl .nil
        exact ⟨hm.1, Reps.kept kp hm.2⟩
    · obtain ⟨as, l, rfl, ek, r3, r4, pr⟩ := reps_pairs (f := keyTD) q1 fun q hq => by
        obtain ⟨h2, h3⟩ := hk q hq
        rcases keyOk_cases h2 with ⟨kk, _, ht⟩ | ⟨kk, e, _⟩
        · rw [ht] at h3; cases h3
        · exact ⟨kk, e⟩
      cases r with
      | cons ra rr =>
        cases ra
        cases rr
        obtain ⟨its, rv, pl, hz2⟩ := I.list (SqL.of h1)
        have ei := refs_at rv
        subst ei
        obtain ⟨xs, kt, pt⟩ := tups_of I pr r4
        have hl1 : as.length = xs.length := Paired.length pt
        rw [List.length_map] at hz2
        obtain ⟨o, n, ho, hcl, hdi, hdat⟩ := pl
        have hmm : (s.heap.objs.size == sysModules) = false := beq_eq_false_iff_ne.mpr (Nat.ne_of_gt I.big)
        have kt2 := kt_all kt (.nil : KT H [] [])
        refine call_dict_pairsH (knd := tupleKind (mixKind X.prog X.w)) (ps := xs) (PairArg.list p (as.map Value.ref).toArray (fun j => as.getD j 0) (xs.map fun x => (Value.ref x.2.1, x.2.2))) (I.ok.hd hc) (show X.A.units + 1 + 1 < cLine by omega) ⟨⟨o, n, ho, hcl, hdi, hdat⟩, ?_, fun jj kk vv e => ?_⟩ ⟨?_, fun i key v e => ?_⟩ (fun h' hk' x hx => ?_) (by rw [List.length_map]; omega) fun h' tk hd' kk => ?_
        · simp [hl1]
        · rw [List.getElem?_map] at e
          obtain ⟨x, hx, ex⟩ := Option.map_eq_some_iff.mp e
          cases ex
          obtain ⟨a, ha, ht⟩ := paired_at pt jj x hx
          have hg : as.getD jj 0 = a := by rw [List.getD_eq_getElem?_getD, ha]; rfl
          refine ⟨by show _ = some (Value.ref (as.getD jj 0)); rw [hg]; simp [ha], .inl ?_⟩
          show s.heap.IsTuple (as.getD jj 0) _
          rw [hg]
          exact ht
        · rw [List.length_map]
        · have e : (xs.map fun x => (Value.ref x.2.1, x.2.2))[i]? = some (key, v) := e
          rw [List.getElem?_map] at e
          obtain ⟨x, hx, ex⟩ := Option.map_eq_some_iff.mp e
          cases ex
          exact ⟨x.1, x.2.1, hx, rfl⟩
        · obtain ⟨j', hj⟩ := List.getElem?_of_mem hx
          obtain ⟨q', _, e1, hb, _⟩ := paired_at kt j' x hj
          obtain ⟨o2, its2, n2, g1, g2, g3, g4⟩ := key_of I.hok hb
          rw [← e1]
          refine ⟨o2, its2, n2, hk' _ _ (Nat.ne_of_lt (Heap.lt_size g1)) (by simp) g1, g2, g3, g4⟩
        · obtain ⟨qo, es, ep, hq, h2, h3, h4, _, h5⟩ := hd'
          have hlen : ((l.map fun q => (q.1, q.2.2)).foldl (fun m q => putK m q.1 q.2) []).length ≤ sizeLine := by
            rw [Paired.length kt2]
            have := storedAllH_length xs []
            simp at this
            omega
          refine ⟨.ref s.heap.objs.size, L2.upd H s.heap.objs.size (.dT ((l.map fun q => (q.1, q.2.2)).foldl (fun m q => putK m q.1 q.2) [])), I.laid (t' := tk) (fun b o e => kk b o (by simp) e) (Nat.le_refl _) ⟨hlen, hmm, _, kt2.keeps fun c ys ec => ?_, qo, es, ep, hq, h2, h3, h4, h5⟩, rfl, fin _ (fun p0 hp0 P' kp => .inr ⟨_, upd_same, ?_⟩) _ (I.hok.fresh (Nat.le_refl _))⟩
          · rw [upd_ne (fun z => by rw [z, I.hok.fresh (Nat.le_refl _)] at ec; cases ec)]
            exact ec
          · have hm := dict_put (K := X.K) (P := P) (H := H) keyTD eqv_keyT (ps := ps) (acc := []) (l := l.map fun q => (q.1, q.2.2)) (m := []) (by rw [ek, List.map_map]; rfl) (by rw [List.map_map]; exact r3) rfl .nil
            exact ⟨hm.1, Reps.kept kp hm.2⟩
  · exact q.elim
end
/-! ### such dicts, sorted -/
section
variable {α : Type} [DecidableEq α] {e : α → D} {n : Nat} {t : Bool} {lt : α → α → Bool} {Q : TV → Prop}
theorem kD_fold [hT : Ty e n] : ∀ (xs ks : List α), (xs.map fun a => (e a, PyData.bool true)).foldl (fun acc q => putD acc q.1 q.2) (kD e ks) = kD e (xs.foldl ins1 ks)
  | [], ks => rfl
  | x :: xs, ks => by
    rw [List.map_cons, List.foldl_cons, List.foldl_cons]
    show List.foldl _ (putD (kD e ks) (e x) (.bool true)) _ = _
    rw [kD_put, kD_fold xs]
theorem gDictL_k [hT : Ty e n] [hK : Ky e t] {x : TV} {xs : List α} (hx : x.data = some (.list (xs.map fun a => PyData.tuple [e a, .bool true]))) (hl : xs.length ≤ 100000) (q : Q (.fd (kD e (uq xs)))) : gDictL [x] Q := by
  refine ⟨xs.map fun a => (e a, PyData.bool true), by rw [hx, List.map_map]; rfl, by rw [List.length_map]; exact Nat.le_trans hl (Nat.le_of_lt szl), ?_, ?_⟩
  · cases t with
    | false =>
      refine .inl fun q hq => ?_
      obtain ⟨a, _, rfl⟩ := List.mem_map.mp hq
      exact ⟨hK.ok a, hK.tup a⟩
    | true =>
      refine .inr fun q hq => ?_
      obtain ⟨a, _, rfl⟩ := List.mem_map.mp hq
      exact ⟨hK.ok a, hK.tup a⟩
  · unfold dictD
    have := kD_fold (e := e) xs []
    rw [show (kD e ([] : List α)) = [] from rfl] at this
    rw [this]
    exact q
/-- sorted(d) -/
theorem gSorted_kD [h : Ty e n] [o : Od e lt] (hn : n ≤ 50) {x : TV} {ks : List α} (hs : srt e ks) (hl : ks.length ≤ 100000) (hx : x.data = some (.dict (kD e ks))) (q : ∀ ys : List α, ys.Perm ks → (ys.Pairwise fun a b => lt b a = false) → Q (.fr (ys.map e))) : gSortedX [x] Q := by
  have h2 : gSortedX [.fr (ks.map e)] Q := gSorted_ty (e := e) hn hs hl rfl q
  unfold gSortedX at h2 ⊢
  simp only [hx, kD_keys]
  exact h2
/-- as it were strictly ascending -/
def sasc (lt : α → α → Bool) (ys : List α) : Prop := ys.Pairwise fun a b => lt a b = true
theorem sorted_strict {e : α → D} [o : Od e lt] : ∀ {ys : List α}, (ys.Pairwise fun a b => lt b a = false) → ys.Nodup → ys.Pairwise fun a b => lt a b = true
  | [], _, _ => .nil
  | a :: ys, h, hn => by
    obtain ⟨h1, h2⟩ := List.pairwise_cons.mp h
    obtain ⟨n1, n2⟩ := List.nodup_cons.mp hn
    refine List.pairwise_cons.mpr ⟨fun b hb => ?_, sorted_strict (e := e) h2 n2⟩
    rcases o.tri a b with h3 | h3 | h3
    · exact h3
    · exact absurd (h3 ▸ hb) n1
    · rw [h1 b hb] at h3; cases h3
theorem gSorted_kU [h : Ty e n] [o : Od e lt] (hn : n ≤ 50) {x : TV} {xs : List α} (hs : srt e (uq xs)) (hl : xs.length ≤ 100000) (hx : x.data = some (.dict (kD e (uq xs)))) (q : ∀ ys : List α, ys.length ≤ xs.length → (∀ a, a ∈ ys ↔ a ∈ xs) → sasc lt ys → Q (.fr (ys.map e))) : gSortedX [x] Q :=
  gSorted_kD (e := e) hn hs (Nat.le_trans (uq_len xs) hl) hx fun ys hp hs => q ys (by rw [hp.length_eq]; exact uq_len xs) (fun a => by rw [hp.mem_iff, uq_mem]) (sorted_strict (e := e) hs (hp.nodup_iff.mpr (uq_nd xs)))
end
end DL

namespace DL
open PySem PySem.Spec PyProof.Rows L2 PySem.W
/-! ### the bag that draws (four places: the great cells, the seed, how many cells there were, the count) -/
def hvB (T : List (Addr × Str)) : Hv := ⟨fun ns ms => ∃ a b c, ns = [a, b, c] ∧ (0 ≤ a ∧ a < 2 ^ 40) ∧ ∀ m ∈ ms, 0 ≤ m, T⟩
abbrev tAbs (t : TE) : TE := tCB rAbs (L2.tCons t L2.tNil)
section
variable {σ : L2.St} {H : Hp} {ta tb : TE} {i j : Int} {K : PySem.W.Frag}
theorem ie_abs (a : IE σ H ta i) : IE σ H (tAbs ta) (if i < 0 then -i else i) := fun Q q => a _ ⟨i, rfl, q⟩
theorem ie_bool {p : Int → Int → Bool} (a : IE σ H ta i) (b : IE σ H tb j) : IE σ H (tInt (tCmp p ta tb)) (if p i j then 1 else 0) := fun Q q => a _ (b _ ⟨i, j, rfl, rfl, .inr ⟨_, rfl, q⟩⟩)
end
abbrev tHead (K : PySem.W.Frag) : TE := tSl (rSlL K) (tVar 0) tNoPart (tPart (tC (.int 63)))
abbrev tGreat (K : PySem.W.Frag) (c0 : Nat) : TE := tLc (iList K (tHead K)) (gName c0) (tB (tGe (tAbs (tInt (tVar c0))) (tOp oP (tC (.int 10)) (tC (.int 18))))) (tAbs (tInt (tVar c0))) [c0]
def greatP (H : Hp) (p D : Addr) (ks : List Int) (i : Nat) (H' : Hp) : Prop := H' p = some (.lst (ks.map V.int)) ∧ (∀ x o, H x = some o → H' x = some o) ∧ ∃ ms : List Int, H' D = some (.lst (ms.map V.int)) ∧ ms.length ≤ i ∧ ∀ m ∈ ms, 0 ≤ m
theorem head_cut {ns : List Int} (hl : ns.length ≤ 63) : ∃ ks : List Int, cutV (ns.map V.int) none (some 63) = ks.map V.int ∧ ks.length ≤ 63 := by
  refine ⟨(ns.drop (HT.sIx (ns.map V.int).length 0 none)).take (HT.sIx (ns.map V.int).length (ns.map V.int).length (some 63) - HT.sIx (ns.map V.int).length 0 none), ?_, ?_⟩
  · unfold cutV
    rw [← List.map_drop, ← List.map_take]
  · rw [List.length_take, List.length_drop]
    omega
theorem great_ok {K : PySem.W.Frag} {σ : L2.St} {H : Hp} {c0 : Nat} {a : Addr} {ns : List Int} {Q : VK} (h0 : σ[0]? = some (some (.ref a))) (hc : c0 < σ.length) (hS : SqL K H a (ns.map V.int)) (hl : ns.length ≤ 63)
    (k : ∀ q (ms : List Int) H', H q = none → (∀ x o, H x = some o → H' x = some o) → H' q = some (.lst (ms.map V.int)) → (∀ m ∈ ms, 0 ≤ m) → Q (.ref q) H') : tGreat K c0 σ H Q := by
  refine ⟨_, h0, ⟨63, rfl, a, _, rfl, hS, fun p hp => ?_⟩⟩
  obtain ⟨ks, ec, el⟩ := head_cut hl
  rw [ec]
  refine ⟨p, rfl, ⟨_, SqL.of upd_same⟩, fun D hD => ?_⟩
  have hDp : D ≠ p := fun z => by rw [z, upd_same] at hD; cases hD
  have hDn : H D = none := by rw [upd_ne hDp] at hD; exact hD
  have wk : Walk (Itl K p) ks.length (fun H => SqL K H p (ks.map V.int)) (YAt (ks.map V.int)) := by
    have w := walk_list (K := K) (a := p) (xs := ks.map V.int)
    rw [List.length_map] at w
    exact w
  refine lc_it wk (greatP H p D ks) ?_ (fun i H' _ h => SqL.of h.1) (fun i x H1 H2 hi h y => ?_) (fun H' h => ?_)
  · refine ⟨by rw [upd_ne (Ne.symm hDp), upd_same], fun x o e => ?_, [], by rw [upd_same]; rfl, Nat.zero_le _, by simp⟩
    have h1 : x ≠ D := fun z => by rw [z, hDn] at e; cases e
    have h2 : x ≠ p := fun z => by rw [z, hp] at e; cases e
    rw [upd_ne h1, upd_ne h2]; exact e
  · obtain ⟨rfl, hx⟩ := y
    rw [List.getElem?_map] at hx
    cases ek : ks[i]? with
    | none => rw [ek] at hx; cases hx
    | some n =>
      rw [ek] at hx
      cases hx
      refine ⟨?_, ?_⟩
      · apply List.ext_getElem?
        intro j
        rw [wipe_get, wipe_get, List.length_set, wipe_length]
        by_cases hj : j ∈ [c0]
        · rw [if_pos hj, if_pos hj]
        · rw [if_neg hj, if_neg hj, List.getElem?_set_ne (fun z => hj (by rw [← z]; simp)), wipe_get, if_neg hj]
      · obtain ⟨h1, h2, ms, h3, h4, h5⟩ := h
        have hvar : ((L2.wipe σ [c0]).set c0 (some (.int n)))[c0]? = some (some (.int n)) := List.getElem?_set_self (by rw [wipe_length]; exact hc)
        have key : ∀ c : Bool, (if c = true then tAbs (tInt (tVar c0)) ((L2.wipe σ [c0]).set c0 (some (.int n))) H2 fun y H4 => ∃ acc, H4 D = some (.lst acc) ∧ acc.length < sizeLine ∧ greatP H p D ks (i + 1) (L2.upd H4 D (.lst (acc ++ [y]))) else greatP H p D ks (i + 1) H2) := fun c => by
          cases c with
          | false =>
            rw [if_neg (by decide)]
            exact ⟨h1, h2, ms, h3, Nat.le_succ_of_le h4, h5⟩
          | true =>
            rw [if_pos rfl]
            refine (ie_abs (ie_int (ie_var hvar))) _ ?_
            refine ⟨_, h3, by rw [List.length_map]; exact Nat.lt_of_le_of_lt h4 (Nat.lt_of_lt_of_le hi (Nat.le_trans el (by decide))), ?_, fun x o e => ?_, ms ++ [if n < 0 then -n else n], ?_, by rw [List.length_append]; exact Nat.succ_le_succ h4, fun m hm => ?_⟩
            · rw [upd_ne (Ne.symm hDp)]; exact h1
            · have : x ≠ D := fun z => by rw [z, hDn] at e; cases e
              rw [upd_ne this]; exact h2 x o e
            · rw [upd_same, List.map_append]; rfl
            · rcases List.mem_append.mp hm with hm | hm
              · exact h5 m hm
              · rw [List.mem_singleton.mp hm]; split <;> omega
        exact (be_cmp (ie_abs (ie_int (ie_var hvar))) (ie_1 ie_c ie_c ⟨by decide, by decide, by decide⟩)) _ (key _)
  · obtain ⟨h1, h2, ms, h3, h4, h5⟩ := h
    exact k D ms H' hDn h2 h3 h5
abbrev tSeedB (K : PySem.W.Frag) : TS := tFor (iList K (tHead K)) (gName 3) (tAsg (tOp oR (tInt (tOp oA (tOp oA (tOp oA (tOp oM (tVar 2) (tC (.int 69621))) (tOp oM (tAbs (tInt (tVar 3))) (tC (.int 2)))) (tInt (tLt (tInt (tVar 3)) (tC (.int 0))))) (tC (.int 17)))) (tC (.int 2147483629))) (gName 2))
def tHandB (K : PySem.W.Frag) (s0 : Int) : TS := tSeq (tAsg (tGreat K 3) (gName 1)) (tSeq (tAsg (tC (.int s0)) (gName 2)) (tSeq (tSeedB K) (tRet (tLst (L2.tCons (tVar 1) (L2.tCons (tVar 2) (L2.tCons (tCB (rLenS K) (L2.tCons (tVar 0) L2.tNil)) (L2.tCons (tC (.int 0)) L2.tNil))))))))
theorem pure_handB {T : List (Addr × Str)} {K : PySem.W.Frag} {N : List Str} {s0 : Int} (hN : N.length = 4) (h0 : 0 ≤ s0 ∧ s0 < 2 ^ 40) (vs : List V) (H : Hp) (Q : VK) (E : XK) (h : sp_hand (hvB T) K vs H Q E) :
    tHandB K s0 { nx := fun _ H' => Q .non H', rt := Q } (L2.start N vs) H := by
  obtain ⟨a, ns, rfl, hS, hl, k⟩ := h
  have es : L2.start N [V.ref a] = [some (.ref a), none, none, none] := by unfold L2.start; rw [hN]; rfl
  rw [es]
  refine st_seq ?_
  show tGreat K 3 _ _ (fun x H1 => gName 1 x _ H1 _)
  refine great_ok (K := K) (σ := [some (.ref a), none, none, none]) (c0 := 3) (a := a) rfl (show 3 < 4 by decide) hS hl fun q ms H' hq hk hq' hm => ?_
  have hset1 : ∀ (D : Ends), (tSeq (tAsg (tC (.int s0)) (gName 2)) (tSeq (tSeedB K) (tRet (tLst (L2.tCons (tVar 1) (L2.tCons (tVar 2) (L2.tCons (tCB (rLenS K) (L2.tCons (tVar 0) L2.tNil)) (L2.tCons (tC (.int 0)) L2.tNil)))))))) D [some (.ref a), some (.ref q), none, none] H' → (tSeq (tAsg (tC (.int s0)) (gName 2)) (tSeq (tSeedB K) (tRet (tLst (L2.tCons (tVar 1) (L2.tCons (tVar 2) (L2.tCons (tCB (rLenS K) (L2.tCons (tVar 0) L2.tNil)) (L2.tCons (tC (.int 0)) L2.tNil)))))))) D [some (.ref a), some (.ref q), none, none] H' := fun _ h => h
  refine hset1 _ ?_
  refine st_seq (st_set ie_c ?_)
  have hset2 : ∀ (D : Ends), (tSeq (tSeedB K) (tRet (tLst (L2.tCons (tVar 1) (L2.tCons (tVar 2) (L2.tCons (tCB (rLenS K) (L2.tCons (tVar 0) L2.tNil)) (L2.tCons (tC (.int 0)) L2.tNil))))))) D [some (.ref a), some (.ref q), some (.int s0), none] H' → (tSeq (tSeedB K) (tRet (tLst (L2.tCons (tVar 1) (L2.tCons (tVar 2) (L2.tCons (tCB (rLenS K) (L2.tCons (tVar 0) L2.tNil)) (L2.tCons (tC (.int 0)) L2.tNil))))))) D [some (.ref a), some (.ref q), some (.int s0), none] H' := fun _ h => h
  refine hset2 _ ?_
  have hS1 := SqL.up hS hk
  refine st_seq ?_
  refine ⟨_, rfl, ⟨63, rfl, a, _, rfl, hS1, fun p1 hp1 => ?_⟩⟩
  obtain ⟨ks, ec, el⟩ := head_cut hl
  rw [ec]
  refine ⟨p1, rfl, ⟨_, SqL.of upd_same⟩, ?_⟩
  have wk : Walk (Itl K p1) ks.length (fun H => SqL K H p1 (ks.map V.int)) (YAt (ks.map V.int)) := by
    have w := walk_list (K := K) (a := p1) (xs := ks.map V.int)
    rw [List.length_map] at w
    exact w
  have hqp : q ≠ p1 := fun z => by rw [z, hp1] at hq'; cases hq'
  refine for_it wk (fun _ σ H2 => ∃ (s : Int) (x : Option V), σ = [some (.ref a), some (.ref q), some (.int s), x] ∧ (0 ≤ s ∧ s < 2 ^ 40) ∧ H2 = L2.upd H' p1 (.lst (ks.map V.int))) ⟨s0, none, rfl, h0, rfl⟩ (fun i σ H2 _ h => by
    obtain ⟨_, _, _, _, rfl⟩ := h
    exact SqL.of upd_same) (fun i x σ H2 H3 hi h y => ?_) fun σ H2 h => ?_
  · obtain ⟨s, y0, rfl, hs, rfl⟩ := h
    obtain ⟨rfl, hx⟩ := y
    rw [List.getElem?_map] at hx
    cases ek : ks[i]? with
    | none => rw [ek] at hx; cases hx
    | some n =>
      rw [ek] at hx
      cases hx
      have v2 : ([some (.ref a), some (.ref q), some (.int s), some (.int n)] : L2.St)[2]? = some (some (.int s)) := rfl
      have v3 : ([some (.ref a), some (.ref q), some (.int s), some (.int n)] : L2.St)[3]? = some (some (.int n)) := rfl
      have small2 : ∀ i : Int, CMul i 2 := fun i => .inr ⟨by decide, by decide⟩
      have small6 : ∀ i : Int, CMul i 69621 := fun i => .inr ⟨by decide, by decide⟩
      show tAsg _ _ _ [some (.ref a), some (.ref q), some (.int s), some (.int n)] _
      refine st_set (ie_1 (ie_int (ie_0 (ie_0 (ie_0 (ie_1 (ie_var v2) ie_c (small6 _)) (ie_1 (ie_abs (ie_int (ie_var v3))) ie_c (small2 _))) (ie_bool (ie_int (ie_var v3)) ie_c)) ie_c)) ie_c (by omega)) ?_
      obtain ⟨n0, n1⟩ := fmod_in (i := s * 69621 + (if n < 0 then -n else n) * 2 + (if decide (n < 0) = true then 1 else 0) + 17) (m := 2147483629) (by decide)
      exact ⟨_, _, rfl, ⟨n0, by omega⟩, rfl⟩
  · obtain ⟨s, y0, rfl, hs, rfl⟩ := h
    have hS2 : SqL K (L2.upd H' p1 (.lst (ks.map V.int))) a (ns.map V.int) := SqL.up hS1 fun x o e => by
      have : x ≠ p1 := fun z => by rw [z, hp1] at e; cases e
      rw [upd_ne this]; exact e
    refine ⟨_, rfl, _, rfl, _, rfl, a, _, rfl, .inl hS2, ⟨show 4 ≤ sizeLine by decide, fun p hp => ?_⟩⟩
    have hpq : p ≠ q := fun z => by rw [z, upd_ne hqp, hq'] at hp; cases hp
    have hpp : p ≠ p1 := fun z => by rw [z, upd_same] at hp; cases hp
    have hpn : H p = none := by
      cases e : H p with
      | none => rfl
      | some o =>
        rw [upd_ne hpp, hk p o e] at hp
        cases hp
    refine k p q [s, (ns.length : Int), 0] ms _ hpn hq hpq (fun x o e => ?_) ?_ ?_ ⟨s, _, 0, rfl, hs, hm⟩
    · have h1 : x ≠ p := fun z => by rw [z, hpn] at e; cases e
      have h2 : x ≠ p1 := fun z => by rw [z] at e; rw [hk p1 o e] at hp1; cases hp1
      rw [upd_ne h1, upd_ne h2]; exact hk x o e
    · rw [upd_same, List.length_map]
      rfl
    · rw [upd_ne (Ne.symm hpq), upd_ne hqp]; exact hq'
/-! ### drawing from the bag -/
abbrev tGrt0 (K : PySem.W.Frag) : TE := tOp (rIxL K) (hI K 0) (tC (.int 0))
abbrev tPopG (K : PySem.W.Frag) : TE := tBM K "list" rPopAt (hI K 0) (L2.tCons (tC (.int 0)) L2.tNil)
def tPickB (K : PySem.W.Frag) : TS :=
  tSeq (tIfS (tB (tEqI (hI K 2) (tC (.int 0)))) (tRet (tC (.int 0))) tNext)
  (tSeq (tIfS (tB (tGt (tCB (rLenS K) (L2.tCons (hI K 0) L2.tNil)) (tC (.int 0))))
    (tSeq (tAsg (tGrt0 K) (gName 2))
    (tSeq (tAsg (tOp oD (tVar 2) (tVar 1)) (gSub (hI K 0) (tC (.int 0)) rSetL))
    (tSeq (tIfS (tB (tLt (tVar 2) (tVar 1))) (tDrop (tPopG K)) tNext)
      (tRet (tOp oR (tInt (tVar 2)) (tVar 1)))))) tNext)
  (tSeq (hSet 3 (tOp oA (hI K 3) (tC (.int 1))))
  (tSeq (tAsg (tOp oR (tInt (tOp oA (tOp oM (tOp oA (hI K 1) (tOp oM (tC (.int 7919)) (hI K 3))) (tC (.int 48271))) (tC (.int 11)))) (tC (.int 2147483647))) (gName 2))
  (tSeq (tAsg (tOp oR (tInt (tOp oA (tOp oM (tVar 2) (tOp oA (tOp oD (tVar 2) (tC (.int 1009))) (tC (.int 69621)))) (hI K 3))) (tC (.int 2147483399))) (gName 2))
  (tSeq (hSet 1 (tOp oR (tInt (tOp oA (hI K 1) (tVar 2))) (tC (.int 2147483629))))
    (tRet (tOp oR (tInt (tOp oD (tVar 2) (tC (.int 16)))) (tVar 1))))))))
section
variable {K : PySem.W.Frag} {p q : Addr} {n a b c : Int} {ms : List Int} {H : Hp} {σ : L2.St}
structure HB (p q : Addr) (n : Int) (x2 : Option V) (a b c : Int) (ms : List Int) (σ : L2.St) (H : Hp) : Prop where
  s : σ = [some (.ref p), some (.int n), x2]
  hp : H p = some (.lst [.ref q, .int a, .int b, .int c])
  hq : H q = some (.lst (ms.map V.int))
variable {x2 : Option V}
theorem HB.v0 (h : HB p q n x2 a b c ms σ H) : σ[0]? = some (some (.ref p)) := by rw [h.s]; rfl
theorem HB.v1 (h : HB p q n x2 a b c ms σ H) : σ[1]? = some (some (.int n)) := by rw [h.s]; rfl
theorem HB.i1 (h : HB p q n x2 a b c ms σ H) : IE σ H (hI K 1) a := fun Q z => ⟨_, h.v0, p, _, 1, _, rfl, rfl, SqL.of h.hp, rfl, z⟩
theorem HB.i2 (h : HB p q n x2 a b c ms σ H) : IE σ H (hI K 2) b := fun Q z => ⟨_, h.v0, p, _, 2, _, rfl, rfl, SqL.of h.hp, rfl, z⟩
theorem HB.i3 (h : HB p q n x2 a b c ms σ H) : IE σ H (hI K 3) c := fun Q z => ⟨_, h.v0, p, _, 3, _, rfl, rfl, SqL.of h.hp, rfl, z⟩
theorem HB.r0 (h : HB p q n x2 a b c ms σ H) (Q : VK) (z : Q (.ref q) H) : hI K 0 σ H Q := ⟨_, h.v0, p, _, 0, _, rfl, rfl, SqL.of h.hp, rfl, z⟩
theorem HB.ne (h : HB p q n x2 a b c ms σ H) : q ≠ p := fun e => by
  have := h.hq
  rw [e, h.hp] at this
  cases ms with
  | nil => cases this
  | cons m r => cases this
theorem HB.len (h : HB p q n x2 a b c ms σ H) : IE σ H (tCB (rLenS K) (L2.tCons (hI K 0) L2.tNil)) (ms.length : Int) := fun Q z => h.r0 _ ⟨q, _, rfl, .inl (SqL.of h.hq), by rw [List.length_map]; exact z⟩
theorem HB.set2 (h : HB p q n x2 a b c ms σ H) (v : V) : HB p q n (some v) a b c ms (σ.set 2 (some v)) H := ⟨by rw [h.s]; rfl, h.hp, h.hq⟩
theorem HB.up (h : HB p q n x2 a b c ms σ H) (a' c' : Int) : HB p q n x2 a' b c' ms σ (L2.upd H p (.lst [.ref q, .int a', .int b, .int c'])) := ⟨h.s, upd_same, by rw [upd_ne h.ne]; exact h.hq⟩
theorem HB.upq (h : HB p q n x2 a b c ms σ H) (ms' : List Int) : HB p q n x2 a b c ms' σ (L2.upd H q (.lst (ms'.map V.int))) := ⟨h.s, by rw [upd_ne (Ne.symm h.ne)]; exact h.hp, upd_same⟩
theorem ixN_0 {n : Nat} (h : 0 < n) : ixN n 0 = some 0 := by
  unfold ixN
  rw [if_pos (by omega), if_pos (by omega)]
  rfl
theorem seqI_0 {n : Nat} (h : 0 < n) : seqIndex? 0 n = some 0 := by
  unfold seqIndex?
  simp
  omega
theorem pickB {H0 : Hp} {D : Ends} (S : HB p q n none a b c ms σ H0) (ha : 0 ≤ a ∧ a < 2 ^ 40) (hm : ∀ m ∈ ms, 0 ≤ m) (hn : 0 < n ∧ n < 1073741824)
    (hr : ∀ (r : Int) (H' : Hp) (a c : Int) (ms : List Int), 0 ≤ r → r < n → H' p = some (.lst [.ref q, .int a, .int b, .int c]) → H' q = some (.lst (ms.map V.int)) → (0 ≤ a ∧ a < 2 ^ 40) → (∀ m ∈ ms, 0 ≤ m) → (∀ x, x ≠ p → x ≠ q → H' x = H0 x) → D.rt (.int r) H') : tPickB K D σ H0 := by
  have dv : ∀ {j : Int}, 0 < j → j < 1073741824 → ∀ i : Int, CDivN i j := fun {j} h1 h2 i => ⟨by omega, by omega⟩
  have mr : ∀ (i : Int) {j : Int}, 0 < j → j < 2 ^ 60 → CMul i j := fun i j h1 h2 => .inr ⟨by omega, by omega⟩
  have ml : ∀ (i : Int) {j : Int}, 0 < j → j < 2 ^ 60 → CMul j i := fun i j h1 h2 => .inl ⟨by omega, by omega⟩
  unfold tPickB
  refine st_seq (st_if (be_cmp S.i2 ie_c) (fun _ => ?_) fun _ => ?_)
  · exact hr 0 H0 a c ms (Int.le_refl _) hn.1 S.hp S.hq ha hm fun _ _ _ => rfl
  refine st_seq (st_if (be_cmp S.len ie_c) (fun hb => ?_) fun _ => ?_)
  · have hl : 0 < ms.length := by
      have := of_decide_eq_true hb
      omega
    cases ms with
    | nil => cases hl
    | cons m r =>
      have hm0 : 0 ≤ m := hm m List.mem_cons_self
      have hmd : 0 ≤ m.fdiv n := Int.fdiv_nonneg hm0 (by omega)
      have i0 : IE σ H0 (tGrt0 K) m := fun Q z => S.r0 _ ⟨q, _, 0, .int m, rfl, rfl, SqL.of S.hq, atI_nat (j := 0) rfl, z⟩
      refine st_seq (st_set i0 ?_)
      have S1 := S.set2 (.int m)
      have v2 : (σ.set 2 (some (.int m)))[2]? = some (some (.int m)) := by rw [S.s]; rfl
      refine st_seq ((ie_1 (ie_var v2) (ie_var S1.v1) (dv hn.1 hn.2 m)) _ (S1.r0 _ ⟨q, _, 0, 0, rfl, rfl, S1.hq, ixN_0 (by simp), ?_⟩))
      have S2 := S1.upq (m.fdiv n :: r)
      have v2' : (σ.set 2 (some (.int m)))[2]? = some (some (.int m)) := v2
      refine st_seq (st_if (be_cmp (ie_var v2') (ie_var S2.v1)) (fun _ => ?_) fun _ => ?_)
      · refine S2.r0 _ ⟨tyL S2.hq, q, _, 0, 0, _, rfl, rfl, S2.hq, by decide, by decide, seqI_0 (by simp), rfl, ?_⟩
        have S3 := S2.upq r
        obtain ⟨r0, r1⟩ := fmod_in (i := m) hn.1
        refine (ie_1 (ie_int (ie_var v2')) (ie_var S3.v1) (by omega)) _ ?_
        refine hr _ _ a c r r0 r1 S3.hp S3.hq ha (fun x hx => hm x (List.mem_cons_of_mem _ hx)) fun x h1 h2 => ?_
        rw [upd_ne h2, upd_ne h2]
      · obtain ⟨r0, r1⟩ := fmod_in (i := m) hn.1
        refine (ie_1 (ie_int (ie_var v2')) (ie_var S2.v1) (by omega)) _ ?_
        refine hr _ _ a c (m.fdiv n :: r) r0 r1 S2.hp S2.hq ha (fun x hx => ?_) fun x h1 h2 => ?_
        · rcases List.mem_cons.mp hx with rfl | hx
          · exact hmd
          · exact hm x (List.mem_cons_of_mem _ hx)
        · rw [upd_ne h2]
  · refine st_seq (hset S.v0 S.hp (ie_0 S.i3 ie_c) (k := 3) (show 3 < 4 by decide) ?_)
    have S1 := S.up a (c + 1)
    have e1 : L2.upd H0 p (.lst ([V.ref q, .int a, .int b, .int c].set 3 (.int (c + 1)))) = L2.upd H0 p (.lst [.ref q, .int a, .int b, .int (c + 1)]) := rfl
    rw [e1]
    refine st_seq (st_set (ie_1 (ie_int (ie_0 (ie_1 (ie_0 S1.i1 (ie_1 ie_c S1.i3 (ml _ (by decide) (by decide)))) ie_c (mr _ (by decide) (by decide))) ie_c)) ie_c (by decide)) ?_)
    obtain ⟨n0, n1⟩ := fmod_in (i := (a + 7919 * (c + 1)) * 48271 + 11) (m := 2147483647) (by decide)
    generalize ((a + 7919 * (c + 1)) * 48271 + 11).fmod 2147483647 = u at n0 n1 ⊢
    have S2 := S1.set2 (.int u)
    have v2 : (σ.set 2 (some (.int u)))[2]? = some (some (.int u)) := by rw [S.s]; rfl
    refine st_seq (st_set (ie_1 (ie_int (ie_0 (ie_1 (ie_var v2) (ie_0 (ie_1 (ie_var v2) ie_c (dv (by decide) (by decide) _)) ie_c) (.inl ⟨by omega, by omega⟩)) S2.i3)) ie_c (by decide)) ?_)
    obtain ⟨n2, n3⟩ := fmod_in (i := u * (u.fdiv 1009 + 69621) + (c + 1)) (m := 2147483399) (by decide)
    generalize (u * (u.fdiv 1009 + 69621) + (c + 1)).fmod 2147483399 = u2 at n2 n3 ⊢
    have S3 := S2.set2 (.int u2)
    have v3 : ((σ.set 2 (some (.int u))).set 2 (some (.int u2)))[2]? = some (some (.int u2)) := by rw [S.s]; rfl
    refine st_seq (hset S3.v0 S3.hp (ie_1 (ie_int (ie_0 S3.i1 (ie_var v3))) ie_c (by decide)) (k := 1) (show 1 < 4 by decide) ?_)
    obtain ⟨n4, n5⟩ := fmod_in (i := a + u2) (m := 2147483629) (by decide)
    generalize (a + u2).fmod 2147483629 = aa at n4 n5 ⊢
    have S4 := S3.up aa (c + 1)
    have e2 : ∀ H1 : Hp, L2.upd H1 p (.lst ([V.ref q, .int a, .int b, .int (c + 1)].set 1 (.int aa))) = L2.upd H1 p (.lst [.ref q, .int aa, .int b, .int (c + 1)]) := fun _ => rfl
    rw [e2]
    refine (ie_1 (ie_int (ie_1 (ie_var v3) ie_c (dv (by decide) (by decide) _))) (ie_var S4.v1) (by omega)) _ ?_
    obtain ⟨r0, r1⟩ := fmod_in (i := u2.fdiv 16) hn.1
    refine hr _ _ aa (c + 1) ms r0 r1 S4.hp S4.hq ⟨n4, by omega⟩ hm fun x h1 h2 => ?_
    rw [upd_ne h1, upd_ne h1]
end
theorem pure_pickB {T : List (Addr × Str)} {K : PySem.W.Frag} {N : List Str} (hN : N.length = 3) :
    ∀ hd Pp H vs rs Q0, J ⟨K, (hvB T)⟩ hd Pp H → RepVs ⟨K, (hvB T)⟩ hd Pp H vs rs → sp_draw rs Q0 → ∀ Q : VK, (∀ r, Q0 r → ∀ v hd' P' H', Grow ⟨K, (hvB T)⟩ hd Pp H hd' P' H' → RepV ⟨K, (hvB T)⟩ hd' P' H' v r → Q v H') →
      tPickB K { nx := fun _ H' => Q .non H', rt := Q } (L2.start N vs) H := by
  intro hd Pp H vs rs Q0 j r sp Q kk
  match rs, sp with
  | [x, y], sp =>
    obtain ⟨rfl, n, rfl, h1, h2, hq⟩ := sp
    cases r with
    | cons r1 r2 =>
      cases r2 with
      | cons r2 r3 =>
        cases r3
        obtain ⟨pq, ehd, rfl⟩ := r1
        cases r2
        have hi := j.hand.i
        rw [ehd] at hi
        obtain ⟨ne, ns, ms, hp, hqq, a, b, c, rfl, ha, hm⟩ := hi
        have S : HB pq.1 pq.2 n none a b c ms (L2.start N [.ref pq.1, .int n]) H := ⟨by unfold L2.start; rw [hN]; rfl, hp, hqq⟩
        refine pickB S ha hm ⟨h1, h2⟩ fun r H' a' c' ms' r0 r1 e1 e2 a0 m0 rest => ?_
        have keep : ∀ x, ¬ hdA hd x → H' x = H x := fun x hx => rest x (fun z => hx (.inl (by rw [ehd]; exact .inl z))) fun z => hx (.inl (by rw [ehd]; exact .inr z))
        have tb : LamX.Tabs hd.T H' := tabs_to j.hand.t fun b o e n => by
          rw [rest b (fun z => by rw [z, hp] at e; cases e; exact n _ rfl) fun z => by rw [z, hqq] at e; cases e; exact n _ rfl]
          exact e
        refine kk _ (hq r r0 r1) _ hd Pp H' ⟨fun _ h => h, fun _ h => .inl h, fun x o h m => by rw [keep x m]; exact h, .inl rfl, ⟨fun x h => by rw [keep x (fun m => j.hnp x m h)]; exact j.ptr x h, ⟨by rw [ehd]; exact ⟨ne, [a', b, c'], ms', e1, e2, a', b, c', rfl, a0, m0⟩, tb, j.hand.e⟩, j.hnp⟩⟩ (Rep.int r)
end DL

namespace DL
open PySem PySem.Spec PyProof.Rows L2 PySem.W
/-! ### d.get(k, x), d.get(k) -/
def isDictT (t : TV) : Prop := ∃ kvs, t.data = some (.dict kvs)
def gGet2 (tx ty tz : TV) (Q : TV → Prop) : Prop := match tx.data, ty.data with
  | some (.dict kvs), some k => (keyOk k = true ∧ (kvs = [] ∨ allIT kvs (isTup k) = true)) ∧ (match findD kvs k with
    | some d => Q (.pl (.d d))
    | none => Q tz)
  | _, _ => False
def dGet2 (fo fe ff : FE) : FE := fun γ Q => fo γ fun tx => isDictT tx ∧ fe γ fun ty => ff γ fun tz => gGet2 tx ty tz Q
def dGet1 (fo fe : FE) : FE := fun γ Q => fo γ fun tx => isDictT tx ∧ fe γ fun ty => gGet2 tx ty (.pl (.d .none)) Q
@[simp] theorem ev_get2 {fo fe ff : FE} {γ : Gam} {Q : TV → Prop} : dGet2 fo fe ff γ Q = fo γ fun tx => isDictT tx ∧ fe γ fun ty => ff γ fun tz => gGet2 tx ty tz Q := (rfl)
@[simp] theorem ev_get1 {fo fe : FE} {γ : Gam} {Q : TV → Prop} : dGet1 fo fe γ Q = fo γ fun tx => isDictT tx ∧ fe γ fun ty => gGet2 tx ty (.pl (.d .none)) Q := (rfl)
section
variable {X : Cx} {hv : Hv} {o e f : Expr} {fo fe ff : FE} {apos cpos : Pos}
theorem isD_dc {K : PySem.W.Frag} {P : Pd} {H : Hp} {p : Addr} {kvs : List (D × D)} (h : DcAt K P H p kvs) : IsD H p := by
  rcases h with ⟨l, h1, _⟩ | ⟨l, h1, _⟩
  · exact .inl ⟨_, .inl h1⟩
  · exact .inr ⟨_, .inl h1⟩
theorem get_end {pins : List (Addr × Obj)} {σ : L2.St} {H0 H : Hp} {s : Shared} {hd : Hd} {P : Pd} {tx ty tz : TV} {x y z : V} {iv fv : Value} {Q0 : TV → Prop} {Q : VK} (hu : X.A.units + 64 < cLine) (I : Inv X pins σ H s) (j : J ⟨X.K, hv⟩ hd P H)
    (rx : Res ⟨X.K, hv⟩ hd P H0 H x tx) (ry : Res ⟨X.K, hv⟩ hd P H0 H y ty) (rz : Res ⟨X.K, hv⟩ hd P H0 H z tz) (vy : L2.RelV y iv) (vz : L2.RelV z fv) (hq : gGet2 tx ty tz Q0) (kk : ∀ t, Q0 t → ∀ v hd' P', Grow ⟨X.K, hv⟩ hd P H hd' P' H → Res ⟨X.K, hv⟩ hd' P' H0 H v t → Q v H) {p : Addr} (ex : x = .ref p) :
    (∀ (Q1 : Value → Shared → Prop), (∀ w' s', EP X pins σ Q w' s' → Q1 w' s') → wpAny (model X.prog X.w) X.A (call (.builtin "dict.get") [.ref p, iv, fv]) Q1 X.xe s) ∧
    (z = .non → ∀ (Q1 : Value → Shared → Prop), (∀ w' s', EP X pins σ Q w' s' → Q1 w' s') → wpAny (model X.prog X.w) X.A (call (.builtin "dict.get") [.ref p, iv]) Q1 X.xe s) := by
  unfold gGet2 at hq
  split at hq
  · rename_i kvs k e1 e2
    obtain ⟨⟨ko, sh⟩, hq⟩ := hq
    obtain ⟨p', rfl, hdc⟩ := rx.dct e1
    cases ex
    have hu1 : X.A.units + 1 < cLine := by omega
    have fin : ∀ (o : Option V), OptRep X.K P H o (findD kvs k) → ∀ w' s', Inv X pins σ H s' → L2.RelV (o.getD z) w' → EP X pins σ Q w' s' := fun o hr w' s' I' rw' => by
      cases hf : findD kvs k with
      | none =>
        rw [hf] at hq hr
        cases o with
        | none => exact ⟨_, H, I', rw', kk _ hq _ hd P j.refl rz⟩
        | some v => cases hr
      | some d =>
        rw [hf] at hq hr
        cases o with
        | none => cases hr
        | some v => exact ⟨_, H, I', rw', kk _ hq _ hd P j.refl hr⟩
    refine with_get I hdc (ry.rep e2) ko sh fun H2 o I2 g r bk => ⟨fun Q1 h1 => d_get2 hu1 I2 g vy vz fun w' s' I' rw' => h1 _ _ (fin o r w' s' (bk _ I') rw'), fun hz Q1 h1 => d_get1 hu1 I2 g vy fun w' s' I' rw' => h1 _ _ (fin o r w' s' (bk _ I') (by rw [hz]; exact rw'))⟩
  · exact hq.elim
theorem de_get2 (hu : X.A.units + 64 < cLine) (ho : DE hv X o fo) (he : DE hv X e fe) (hf : DE hv X f ff) (m : M2 X o "get" apos e f cpos) : DE hv X (.Call (.Attribute o "get" apos) [e, f] [] cpos) (dGet2 fo fe ff) := by
  refine ⟨fun pins s σ H Q I ⟨γ, hd, P, Q0, S, f1, kk⟩ => ?_⟩
  refine wpAny_Call_method m.base m.few m.line PySem.F.plainAttrs_dict PySem.F.slot_dict_get PySem.F.type_dict_get (thn (ho.run pins s σ H (fun x H1 => ∃ t hd1 P1, (isDictT t ∧ fe γ fun ty => ff γ fun tz => gGet2 t ty tz Q0) ∧ Grow ⟨X.K, hv⟩ hd P H hd1 P1 H1 ∧ Res ⟨X.K, hv⟩ hd1 P1 H H1 x t) I ⟨γ, hd, P, _, S, f1, fun t q v hd1 P1 H1 g1 r1 => ⟨t, hd1, P1, q, g1, r1⟩⟩) fun u s1 ⟨x, H1, I1, rx, t, hd1, P1, ⟨⟨kvs, ek⟩, q1⟩, g1, r1⟩ => ?_)
  obtain ⟨p, rfl, hdc⟩ := r1.dct ek
  obtain rfl : u = Value.ref p := rx
  obtain ⟨t1, t2, _⟩ := isD_at I1 (isD_dc hdc)
  refine ⟨t1, t2, ?_⟩
  rw [m.trees]
  have S1 := S.grow g1
  refine Calls.callWith_builtin rfl (Calls.evalArgs_plain (Calls.spliced_cons (thn (he.run pins s1 σ H1 (fun y H2 => ∃ ty hd2 P2, (ff γ fun tz => gGet2 t ty tz Q0) ∧ Grow ⟨X.K, hv⟩ hd1 P1 H1 hd2 P2 H2 ∧ Res ⟨X.K, hv⟩ hd2 P2 H1 H2 y ty) I1 ⟨γ, hd1, P1, _, S1, q1, fun t q v hd1 P1 H1 g1 r1 => ⟨t, hd1, P1, q, g1, r1⟩⟩) fun iv s2 ⟨y, H2, I2, ry, ty, hd2, P2, q2, g2, r2⟩ => ?_)))
  have S2 := S1.grow g2
  refine Calls.spliced_cons (thn (hf.run pins s2 σ H2 (fun z H3 => ∃ tz hd3 P3, gGet2 t ty tz Q0 ∧ Grow ⟨X.K, hv⟩ hd2 P2 H2 hd3 P3 H3 ∧ Res ⟨X.K, hv⟩ hd3 P3 H2 H3 z tz) I2 ⟨γ, hd2, P2, _, S2, q2, fun t q v hd1 P1 H1 g1 r1 => ⟨t, hd1, P1, q, g1, r1⟩⟩) fun fv s3 ⟨z, H3, I3, rz, tz, hd3, P3, q3, g3, r3⟩ => Calls.spliced_nil ?_)
  have f01 : ∀ a, H1 a = none → H a = none := fun a h => g1.free S.j h
  have f12 : ∀ a, H2 a = none → H1 a = none := fun a h => g2.free S1.j h
  have r1' := (r1.grow g1.j g2).grow g2.j g3
  have r2' := (r2.start f01).grow g2.j g3
  have r3' := (r3.start f12).start f01
  exact (get_end hu I3 g3.j r1' r2' r3' ry rz q3 (fun t qt v hd' P' g r => kk _ qt v hd' P' H3 (((g1.trans S.j g2).trans S.j g3).trans S.j g) r) rfl).1 _ fun _ _ h => h
theorem de_get1 (hu : X.A.units + 64 < cLine) (ho : DE hv X o fo) (he : DE hv X e fe) (m : M1 X o "get" apos e cpos) : DE hv X (.Call (.Attribute o "get" apos) [e] [] cpos) (dGet1 fo fe) := by
  refine ⟨fun pins s σ H Q I ⟨γ, hd, P, Q0, S, f1, kk⟩ => ?_⟩
  refine wpAny_Call_method m.base m.few m.line PySem.F.plainAttrs_dict PySem.F.slot_dict_get PySem.F.type_dict_get (thn (ho.run pins s σ H (fun x H1 => ∃ t hd1 P1, (isDictT t ∧ fe γ fun ty => gGet2 t ty (.pl (.d .none)) Q0) ∧ Grow ⟨X.K, hv⟩ hd P H hd1 P1 H1 ∧ Res ⟨X.K, hv⟩ hd1 P1 H H1 x t) I ⟨γ, hd, P, _, S, f1, fun t q v hd1 P1 H1 g1 r1 => ⟨t, hd1, P1, q, g1, r1⟩⟩) fun u s1 ⟨x, H1, I1, rx, t, hd1, P1, ⟨⟨kvs, ek⟩, q1⟩, g1, r1⟩ => ?_)
  obtain ⟨p, rfl, hdc⟩ := r1.dct ek
  obtain rfl : u = Value.ref p := rx
  obtain ⟨t1, t2, _⟩ := isD_at I1 (isD_dc hdc)
  refine ⟨t1, t2, ?_⟩
  rw [m.trees]
  have S1 := S.grow g1
  refine Calls.callWith_builtin rfl (Calls.evalArgs_plain (Calls.spliced_cons (thn (he.run pins s1 σ H1 (fun y H2 => ∃ ty hd2 P2, gGet2 t ty (.pl (.d .none)) Q0 ∧ Grow ⟨X.K, hv⟩ hd1 P1 H1 hd2 P2 H2 ∧ Res ⟨X.K, hv⟩ hd2 P2 H1 H2 y ty) I1 ⟨γ, hd1, P1, _, S1, q1, fun t q v hd1 P1 H1 g1 r1 => ⟨t, hd1, P1, q, g1, r1⟩⟩) fun iv s2 ⟨y, H2, I2, ry, ty, hd2, P2, q2, g2, r2⟩ => Calls.spliced_nil ?_)))
  have f01 : ∀ a, H1 a = none → H a = none := fun a h => g1.free S.j h
  have r1' := r1.grow g1.j g2
  have r2' := r2.start f01
  exact (get_end (z := .non) (tz := .pl (.d .none)) (fv := .none) hu I2 g2.j r1' r2' (show Rep X.K P2 H2 .non .none from .non) ry rfl q2 (fun t qt v hd' P' g r => kk _ qt v hd' P' H2 ((g1.trans S.j g2).trans S.j g) r) rfl).2 rfl _ fun _ _ h => h
end
end DL

namespace DL
open PySem PySem.Spec PyProof.Rows L2 PySem.W

/-! ### errors that leave a def -/
/-- an error: the name of its class -/
abbrev Exn := Str
def RepX (c : Cfg) (x : Exn) (cls : Value) (d : Option Addr) : Prop := cls = .ref (He.ga c.K x) ∧ d = none
abbrev SpecX := List RV → (Exn → Prop) → Prop
def spOfX (c : Cfg) (sp : SpecX) : Sp := fun vs H _ E => ∃ hd P rs X0, J c hd P H ∧ RepVs c hd P H vs rs ∧ sp rs X0 ∧ ∀ x, X0 x → ∀ hd' P' H', Grow c hd P H hd' P' H' → ∀ cls d, RepX c x cls d → E cls d H'
abbrev FX := Gam → (Exn → Prop) → Prop
def tDX (c : Cfg) (W : WX) (f : FX) : TE := fun σ H _ => ∃ γ hd P X0, Sta c γ σ hd P H ∧ f γ X0 ∧ ∀ x, X0 x → ∀ hd' P' H', Grow c hd P H hd' P' H' → ∀ cls d, RepX c x cls d → W cls d σ H'
abbrev DEX (hv : Hv) (X : Cx) (W : WX) (e : Expr) (f : FX) : Prop := PE X e (tDX ⟨X.K, hv⟩ W f)
/-- what a block wishes of an error: slots do not count -/
def tDSX (c : Cfg) (E : XK) (f : FX) : TS := fun _ σ H => ∃ F γ hd P X0, StF c F γ σ hd P H ∧ f γ X0 ∧ ∀ x, X0 x → ∀ hd' P' H', Grow c F.hd F.P F.H hd' P' H' → ∀ cls d, RepX c x cls d → E cls d H'
abbrev DSX (hv : Hv) (X : Cx) (E : XK) (st : Stmt) (f : FX) : Prop := PS X st (tDSX ⟨X.K, hv⟩ E f)
abbrev DX (hv : Hv) (X : Cx) (E : XK) (st : List Stmt) (f : FX) : Prop := PSs X st (tDSX ⟨X.K, hv⟩ E f)
/-- the wish of a def's body -/
abbrev wE (E : XK) : WX := fun cls d _ H => E cls d H
/-- the program's own errors -/
structure ExF (cl al : List Str) (K : PySem.W.Frag) (mg : Str → Option Value) : Prop where
  sub : ∀ x ∈ cl, x ∈ al
  g : ∀ x ∈ al, mg x = some (.ref (He.ga K x))
  ex : ∀ x ∈ cl, PySem.W.excIn K (He.ga K x) He.veBase "ValueError.__new__" = true ∧ PySem.W.keepIn K (.ref (He.ga K x)) = true ∧ PySem.W.subIn K (.ref (He.ga K x)) (.type "BaseException") = some true ∧ PySem.W.typeIn K (.ref (He.ga K x)) = some (.type "type")
  is : ∀ x ∈ cl, ExcC K (He.ga K x)
  kit : ∀ x ∈ cl, ∀ y ∈ al, PySem.W.kitOne K (.ref (He.ga K x)) (.ref (He.ga K y)) = some (decide (x = y))
  kitV : ∀ x ∈ cl, PySem.W.kitOne K (.ref (He.ga K x)) (.type "ValueError") = some true
  root : ∃ a, mg "FireError" = some (.ref a) ∧ ∀ x ∈ cl, PySem.W.exmOne K (.ref (He.ga K x)) (.ref a) = some true
def xNo : FX := fun _ _ => False
def xRaise (x : Exn) : FX := fun _ X0 => X0 x
def xThen (f : FS) (g : FX) : FX := fun γ X0 => f γ { nx := fun γ' => g γ' X0, rt := fun _ => False }
def xIf (c : FT) (a b : FX) : FX := fun γ X0 => c γ fun t => if t = true then a γ X0 else b γ X0
def xOr (f g : FX) : FX := fun γ X0 => f γ X0 ∨ g γ X0
def xCall (sp : SpecX) (fr : FA) : FX := fun γ X0 => fr γ fun ts => match rvs ts with
  | some rs => sp rs X0
  | none => False
theorem pss_never {X : Cx} : ∀ {sts : List Stmt}, PSs X sts fun _ _ _ => False
  | [] => ⟨fun _ _ _ _ _ _ h => h.elim⟩
  | _ :: _ => pss_imp (pss_cons (t := tNever) (u := tNever) ps_never (pss_imp pss_never fun _ _ _ h => h)) fun _ _ _ h => h.elim
section
variable {X : Cx} {hv : Hv} {E : XK} {W : WX} {st : Stmt} {sts as bs : List Stmt} {c e : Expr} {f : FS} {g h xf xg : FX} {fc : FT} {pos pos' p : Pos} {x : Str}
theorem dx_none : DX hv X E sts xNo := pss_imp pss_never fun _ _ _ ⟨_, _, _, _, _, _, q, _⟩ => q
theorem dsx_none : DSX hv X E st xNo := ps_imp (t := tNever) ps_never fun _ _ _ ⟨_, _, _, _, _, _, q, _⟩ => q
theorem dx_then (h1 : DS hv X st f) (h2 : DX hv X E sts g) : DX hv X E (st :: sts) (xThen f g) :=
  pss_imp (pss_cons h1 h2) fun D σ H ⟨F, γ, hd, P, X0, S, q, k⟩ => ⟨F, γ, hd, P, _, S, q, ⟨fun γ' q' σ' hd' P' H' S' _ => ⟨F, γ', hd', P', X0, S', q', k⟩, fun _ z => z.elim, fun _ z => z.elim, fun _ z => z.elim⟩⟩
theorem dx_here (h1 : DSX hv X E st g) : DX hv X E (st :: sts) g :=
  pss_imp (pss_cons h1 pss_never) fun D σ H q => q
theorem dx_or (h1 : DX hv X E sts xf) (h2 : DX hv X E sts xg) : DX hv X E sts (xOr xf xg) :=
  ⟨fun pins s σ H D I ⟨F, γ, hd, P, X0, S, q, k⟩ => q.elim (fun q => h1.run pins s σ H D I ⟨F, γ, hd, P, X0, S, q, k⟩) fun q => h2.run pins s σ H D I ⟨F, γ, hd, P, X0, S, q, k⟩⟩
theorem dsx_if (hc : DT hv X c fc) (ha : DX hv X E as xf) (hb : DX hv X E bs xg) : DSX hv X E (.If c as bs pos) (xIf fc xf xg) :=
  ps_imp (ps_if hc ha hb) fun D σ H ⟨F, γ, hd, P, X0, S, q, k⟩ => ⟨γ, hd, P, _, S.s, q, fun b qb hd1 P1 H1 g1 => by
    cases b with
    | true => exact iteT ⟨F, γ, hd1, P1, X0, S.grow g1, qb, k⟩
    | false => exact iteF ⟨F, γ, hd1, P1, X0, S.grow g1, qb, k⟩⟩
/-- if c: as (which does not go on) / the rest -/
theorem dx_ifr (hc : DT hv X c fc) (ha : DX hv X E as xf) (hb : DX hv X E sts xg) : DX hv X E (.If c as [] pos :: sts) (xIf fc xf xg) :=
  pss_imp (pss_cons (ps_if hc ha pss_nil) hb) fun D σ H ⟨F, γ, hd, P, X0, S, q, k⟩ => ⟨γ, hd, P, _, S.s, q, fun b qb hd1 P1 H1 g1 => by
    cases b with
    | true => exact iteT ⟨F, γ, hd1, P1, X0, S.grow g1, qb, k⟩
    | false => exact iteF ⟨F, γ, hd1, P1, X0, S.grow g1, qb, k⟩⟩
theorem tDX_of {cf : Cfg} {σ : L2.St} {H : Hp} {Q : VK} {En : Ends} (z : tDSX cf E xf En σ H) : tDX cf (wE E) xf σ H Q := by
  obtain ⟨F, γ, hd, P, X0, S, q, k⟩ := z
  exact ⟨γ, hd, P, X0, S.s, q, fun x qx hd' P' H' g cls d r => k x qx hd' P' H' (S.g.trans S.j0 g) cls d r⟩
theorem dsx_exp (he : DEX hv X (wE E) e xf) (hs : swapsWith e none pos.line X.env = pure false := by rfl) : DSX hv X E (.Expr e pos) xf :=
  ps_imp (ps_expr he hs) fun _ _ _ z => tDX_of z
theorem dsx_ret (he : DEX hv X (wE E) e xf) : DSX hv X E (.Return (some e) pos) xf :=
  ps_imp (ps_ret he) fun _ _ _ z => tDX_of z
theorem dsx_asg {i : Nat} {z : Str} (hN : X.N.Nodup) (he : DEX hv X (wE E) e xf) (hi : X.N[i]? = some z := by rfl) (hx : Loc X.env.scope z := by first | exact .inl rfl | exact .inr rfl) (hs : swapsWith e (some (.Name z pos')) pos.line X.env = pure false := by rfl) (hf : X.fn z = true ∨ X.env.scope.names.lookup z = some .local := by first | exact .inl rfl | exact .inr rfl) : DSX hv X E (.Assign [.Name z pos'] e pos) xf :=
  ps_imp (ps_set hN hi hx he hs hf) fun _ _ _ z => tDX_of z
/-- C(), C an own class of errors without own __init__ -/
theorem pmk_own0 {C : Addr} {bmB : List Value} {B newId initId : String} {x : Str} {p pos : Pos} (F : ExcBaseFacts B newId initId bmB) (q : PySem.W.excIn X.K C bmB newId = true) (gC : X.mg x = some (.ref C))
    (kC : PySem.W.keepIn X.K (.ref C) = true) (r : Raises X (.ref C)) (hg : Gl X x) (hdb : (x == ("__debug__" : Str)) = false := by decide) :
    PMk X (.Call (.Name x p) [] [] pos) (fun _ H Q => Q (.ref C) none H) := by
  intro pins s σ H Q I h
  refine wpAny_Call_Name_kw (ld_glob I hg gC ?_ hdb)
  refine PySem.W.callWith_K0 I.kIn kC ?_
  obtain ⟨bm, N, nm, qn, bs, hdct, sn, sub, ab, col, dd, k0, k1, k2, k3, k5, mN, hC, hN, hni, T⟩ := exc_obj I.kIn q
  exact wpAny_call_exc_subT F T hC hN hni (fun h' e hm => mk_of I hm r h (I.hok.gone hm.new)) (by show 0 ≤ sizeLine; exact Nat.zero_le _)
theorem dsx_raise {cl al : List Str} {k : Nat} (G : ExF cl al X.K X.mg) (hx : cl[k]? = some x) (tk : Takes X (wE E)) (hc : X.calm = true := by rfl) (hg : Gl X x := by rfl) (hdb : (x == ("__debug__" : Str)) = false := by decide) : DSX hv X E (.Raise (some (.Call (.Name x p) [] [] pos')) none pos) (xRaise x) := by
  have hm := List.mem_of_getElem? hx
  obtain ⟨e1, e2, e3, e4⟩ := G.ex x hm
  refine ps_imp (ps_raise hc tk (pmk_own0 PySem.F.excBase_ValueError e1 (G.g x (G.sub x hm)) e2 (raises_own e3 e4) hg hdb)) fun D σ H ⟨F, γ, hd, P, X0, S, q, k⟩ => ?_
  exact k x q hd P H S.g _ _ ⟨rfl, rfl⟩
end

/-! ### defs that let errors out -/
structure FnGX (P : Program) (w : World) (K : PySem.W.Frag) (mg : Str → Option Value) (base : Heap) (k : Nat) (f : Addr) (fd : FuncData) (ps : List Str) (sp : Sp) : Prop where
  len : ∀ vs H Q E, sp vs H Q E → vs.length = ps.length
  run : ∀ (A : Around) (outer : List Env) (s : Shared) (H : Hp) (args : Args) (us : List Value) (vs : List V) (Q : VK) (E : XK), Room k A → A.guards = some [] → Env0 P w K mg base A outer s H → BindsTo s fd args (ps.zip us) → Vals vs us → sp vs H Q E →
    codeAny (model P w) A (.call (.ref f) args) (CR (L2.CX P w) outer P w H s Q E) s
def FnX (hv : Hv) (P : Program) (w : World) (K : PySem.W.Frag) (mg : Str → Option Value) (base : Heap) (k : Nat) (x : Str) (ps : List Str) (sp : SpecX) : Prop :=
  ∃ f fd, mg x = some (.ref f) ∧ PySem.W.keepIn K (.ref f) = true ∧ Binds K fd ps [] ∧ FnGX P w K mg base k f fd ps (spOfX ⟨K, hv⟩ sp)
def MeetsX (n : Nat) (m : FX) (sp : SpecX) : Prop := ∀ rs X0, sp rs X0 → m (gam0 n rs) X0
section
variable {hv : Hv} {P : Program} {w : World} {K : PySem.W.Frag} {mg : Str → Option Value} {base : Heap} {k : Nat} {x : Str} {st : Stmt} {N ps : List Str} {sp : SpecX} {m : FX}
theorem FnX.mono {j : Nat} (F : FnX hv P w K mg base j x ps sp) (h : j ≤ k) : FnX hv P w K mg base k x ps sp := by
  obtain ⟨f, fd, h1, h2, h3, h4⟩ := F
  exact ⟨f, fd, h1, h2, h3, h4.len, fun A outer s H args us vs Q E hr => h4.run A outer s H args us vs Q E (hr.mono h)⟩
theorem fnx_ok (D : Defd K mg x st) (S : FnScope N ps (defScope st)) (len : ∀ rs X0, sp rs X0 → rs.length = ps.length)
    (hb : ∀ (kV doc pm : Value) (an : Option Addr) (cdv ct : Value) (us : List Value), us.length = ps.length → bindArgs (PySem.W.fnOf x x (defArgs st) (defBody st) (defScope st) .none kV doc pm an cdv ct) ⟨us, []⟩ = pure (ps.zip us))
    (body : ∀ (f : Addr) (cdv : Value) (A : Around) (outer : List Env) (s : Shared) (H : Hp) (E : XK), Room k (A.deeper (envOfC x (defScope st) s.heap.objs.size f cdv)) → (A.deeper (envOfC x (defScope st) s.heap.objs.size f cdv)).guards = some [] →
      Takes (cxOf (L2.CX P w) P w K mg base N x (defScope st) f cdv A outer s H E) (wE E) →
      DX hv (cxOf (L2.CX P w) P w K mg base N x (defScope st) f cdv A outer s H E) E (defBody st) m)
    (meets : MeetsX N.length m sp) : FnX hv P w K mg base (k + 1) x ps sp := by
  obtain ⟨f, fd, hm, F⟩ := D
  refine ⟨f, fd, hm, F.kp, F.bindsN hb, ?_⟩
  obtain ⟨oc, od, dV, kV, doc, pm, an, cdv, ct, osl, rfl, lk, hcd, _, _⟩ := F.ex
  have ln : ∀ vs H Q E, spOfX ⟨K, hv⟩ sp vs H Q E → vs.length = ps.length := by
    rintro vs H Q E ⟨hd, Pd, rs, Q0, j, r, q, _⟩
    rw [r.length, len _ _ q]
  refine ⟨ln, fun A outer s H args us vs Q E room gd ent bd rel prom => ?_⟩
  have many := ln _ _ _ _ prom
  have inK : K.In s.heap := ent.mod.kin.keeps fun b o e => (ent.bs b o e).1
  have nolim : s.heap.NoLimit := ent.mod.nolimit.keeps fun b o e => (ent.bs b o e).1
  have kinds : ∀ y ∈ ps.zip us, (defScope st).names.lookup y.1 = some .local ∨ ((defScope st).names.lookup y.1 = some .cell ∧ ((cellsFrom (s.heap.objs.size + 1) (defScope st).names []).lookup y.1).isSome = true) := by
    rintro ⟨n, v⟩ hy
    rcases S.par n (List.of_mem_zip hy).1 with q | q
    · exact .inl q
    · exact .inr ⟨q, PySem.W.cellsFrom_some _ _ _ (.inl q)⟩
  refine codeAny_call_function room.depth (inK _ _ lk) rfl S.co S.gen rfl (PySem.W.codeRec_of inK hcd) (bd _ _ _ _ ?_)
  refine wpAny_newFunctionEnv_cells S.kind kinds fun env he s1 xx => ?_
  subst he
  refine ⟨nolim.keeps xx.toInCall.keep, codeAny_func ?_⟩
  have ht := body f cdv A outer s H E (room.deeper _) gd (takes_of rfl rfl rfl rfl)
  obtain ⟨hd, Pp, rs, X0, j, r, q, kk⟩ := prom
  have J0 : Inv (cxOf (L2.CX P w) P w K mg base N x (defScope st) f cdv A outer s H E) [] (L2.start N vs) H s1 := inv_start S room.hd ent many rel xx
  have start : tDSX ⟨K, hv⟩ E m { nx := fun _ _ => False, rt := fun _ _ => False } (L2.start N vs) H := by
    refine ⟨⟨hd, Pp, H⟩, gam0 N.length rs, hd, Pp, X0, ⟨sta_start j r, j.refl, j, fun i s p e o _ => ?_⟩, meets rs X0 q, kk⟩
    unfold gam0 at e
    have hm := List.mem_of_getElem? e
    rw [List.mem_append] at hm
    rcases hm with hm | hm
    · obtain ⟨r0, _, z⟩ := List.mem_map.mp hm
      rw [← z] at o; cases o
    · rw [List.eq_of_mem_replicate hm] at o; cases o
  refine wpAny_mono (ht.run [] s1 (L2.start N vs) H _ J0 start) (fun fl s' hs => ?_) fun e s' hs => hs
  cases fl with
  | ret u => obtain ⟨_, _, _, _, _, z⟩ := hs; exact z.elim
  | next => obtain ⟨_, _, _, z⟩ := hs; exact z.elim
  | brk => obtain ⟨_, _, _, z⟩ := hs; exact z.elim
  | cont => obtain ⟨_, _, _, z⟩ := hs; exact z.elim
end
section
variable {X : Cx} {hv : Hv} {k : Nat} {f : Addr} {fd : FuncData} {ps : List Str} {sp : Sp} {x : Str} {p pos : Pos} {e : Expr} {es : List Expr} {t : TA} {fr : FA} {S : SpecX} {W : WX}
theorem run_fngx {pins : List (Addr × Obj)} {σ : L2.St} {H : Hp} {s : Shared} {Q : VK} {us : List Value} {vs : List V} (F : FnGX X.prog X.w X.K X.mg X.base k f fd ps sp) (hr : Room k X.A) (hgd : X.A.guards = some []) (hb : Binds X.K fd ps []) (tk : Takes X W)
    (I : Inv X pins σ H s) (r : Vals vs us) (h : sp vs H Q (WE W σ)) : wpAny (model X.prog X.w) X.A (call (.ref f) us) (EP X pins σ Q) X.xe s := by
  have many : (us ++ []).length = ps.length := by rw [List.append_nil, ← r.length]; exact F.len _ _ _ _ h
  have bd := hb s us I.kIn many
  rw [List.append_nil] at bd
  refine wpAny_call (codeAny_mono (F.run X.A X.stack s H ⟨us, []⟩ us vs Q (WE W σ) hr hgd I.env0 bd r h) fun r s' got => ?_)
  cases r with
  | error e => exact passAt tk σ pins H s e s' I got
  | ok fl =>
    cases fl with
    | ret u => exact I.after got
    | _ => exact False.elim got
theorem t_callX {σ : L2.St} {H : Hp} {Q : VK} {K : PySem.W.Frag} (z : tDX ⟨K, hv⟩ W (xCall S fr) σ H Q) : tDA ⟨K, hv⟩ fr σ H fun vs H1 => spOfX ⟨K, hv⟩ S vs H1 Q (WE W σ) := by
  obtain ⟨γ, hd, P, X0, St, q, k⟩ := z
  refine ⟨γ, hd, P, _, St, q, fun ts qt vs hd1 P1 H1 g1 r1 => ?_⟩
  split at qt
  · rename_i rs e1
    obtain ⟨P2, m, r2⟩ := Ress.toRVs g1.j r1 e1
    exact ⟨hd1, P2, rs, X0, m.j, r2, qt, fun x qx hd' P' H' g cls d rx => k x qx hd' P' H' ((g1.more m).trans St.j g) cls d rx⟩
  · exact qt.elim
theorem dex_fn (F : FnX hv X.prog X.w X.K X.mg X.base k x ps S) (hr : Room k X.A) (hgd : X.A.guards = some []) (tk : Takes X W) (ha : DA hv X (e :: es) fr) (hg : Gl X x := by rfl) (hdb : (x == ("__debug__" : Str)) = false := by decide)
    (he : starEach (e :: es) X.env = (false, eval e X.env) :: starEach es X.env := by rfl) (hpl : (backTo pos (starEach es X.env)).any (·.1) = false := by rfl) : DEX hv X W (.Call (.Name x p) (e :: es) [] pos) (xCall S fr) := by
  obtain ⟨f, fd, h1, h2, h3, h4⟩ := F
  refine ⟨fun pins s σ H Q I h => ?_⟩
  refine wpAny_Call_Name_kw (ld_glob I hg h1 ?_ hdb)
  exact PySem.W.callWith_K (h₀ := X.base) I.ok.mod.kin h2 (thn (ha.run pos pins s σ H _ I (t_callX h)) fun us s1 ⟨vs, H1, I1, r, q⟩ => ⟨I1.kIn, run_fngx h4 hr hgd h3 tk I1 r q⟩) he hpl
end
end DL

namespace DL
open PySem PySem.Spec PyProof.Rows L2 PySem.W

/-! ### a lambda that is handed to a def which asks it -/
/-- its names: those of bs (parameters with defaults) are its own, else captured ones and globals -/
structure LamN (N : List Str) (sc scope : Scope) (bs : List Str) : Prop where
  kind : scope.kind = .function
  co : scope.isCoroutine = false
  gen : scope.isGenerator = false
  nocell : ∀ y ∈ scope.names, y.2 ≠ .cell
  loc : ∀ y ∈ scope.names, y.2 = .local → y.1 ∉ N
  par : ∀ y ∈ bs, scope.names.lookup y = some .local
  free : ∀ y ∈ scope.names, y.2 = .free → sc.names.lookup y.1 = some .cell ∨ sc.names.lookup y.1 = some .free
def lamNB (N : List Str) (sc scope : Scope) (bs : List Str) : Bool :=
  decide (scope.kind = .function) && (!scope.isCoroutine && (!scope.isGenerator && ((bs.all fun y => decide (scope.names.lookup y = some .local)) &&
    scope.names.all fun y => !decide (y.2 = .cell) && ((!decide (y.2 = .local) || decide (y.1 ∉ N)) && (!decide (y.2 = .free) || (decide (sc.names.lookup y.1 = some .cell) || decide (sc.names.lookup y.1 = some .free)))))))
theorem lamN_by {N : List Str} {sc scope : Scope} {bs : List Str} (h : lamNB N sc scope bs = true) : LamN N sc scope bs := by
  unfold lamNB at h
  simp only [Bool.and_eq_true, Bool.or_eq_true, Bool.not_eq_true', decide_eq_true_eq, decide_eq_false_iff_not, List.all_eq_true] at h
  obtain ⟨a, b, c, d, e⟩ := h
  refine ⟨a, b, c, fun y hy => (e y hy).1, fun y hy z => ?_, d, fun y hy z => ?_⟩
  · rcases (e y hy).2.1 with q | q
    · exact absurd z q
    · exact q
  · rcases (e y hy).2.2 with q | q
    · exact absurd z q
    · exact q
theorem LamN.has {X : Cx} {scope : Scope} {bs : List Str} (L : LamN X.N X.env.scope scope bs) (ok : X.Ok) : ∀ y ∈ scope.names, y.2 = .free → ∃ c, X.env.cells.lookup y.1 = some c := by
  intro y hy e
  refine ok.has _ ?_
  rcases L.free y hy e with k | k
  · exact .inl k
  · exact .inr k
/-- an object that nobody tracks or writes -/
def Still (X : Cx) (H : Hp) (s : Shared) (q : Addr × Obj) : Prop := s.heap.get? q.1 = some q.2 ∧ H q.1 = none ∧ q.1 ∉ frs X.stack
section
variable {X : Cx} {pins : List (Addr × Obj)} {σ : L2.St} {H HZ : Hp} {s s1 : Shared}
theorem lam_in {A : Around} {outer : List Env} {E : XK} {scope : Scope} {bs : List Str} {f c' : Addr} {h₁ : Heap} {tk : Nat} {mm : Str → Option Value} (I : Inv X pins σ H s) (L : LamN X.N X.env.scope scope bs) (e0 : Env0 X.prog X.w X.K X.mg X.base A outer s1 HZ) (hd : A.handled = none)
    (un : Un (frs X.stack) [] H HZ s.heap s1.heap) (hns : h₁.Ns s1.heap.objs.size mm) (kp : ∀ b o, s1.heap.get? b = some o → h₁.get? b = some o) :
    Inv (LamX.lamCx X A outer s1 HZ E scope f c') [] σ HZ { s1 with heap := h₁, toks := tk } := by
  have free_has := L.has I.ok
  have back : ∀ {y c}, (cloFrom X.env.cells scope.names []).lookup y = some c → X.env.cells.lookup y = some c := by
    intro y c e
    rcases cloFrom_mem (PySem.mem_of_lookup e) with m | ⟨m1, m2⟩
    · cases m
    · obtain ⟨d, hd⟩ := free_has _ m1 rfl
      have hd : X.env.cells.lookup y = some d := hd
      have same : c = d := by
        rw [m2, hd] <;> rfl
      rw [same]
      exact hd
  have there : ∀ {y}, scope.names.lookup y = some .free → ∃ c, (cloFrom X.env.cells scope.names []).lookup y = some c := by
    intro y hl
    exact mem_lookup (cloFrom_has (cells := X.env.cells) (acc := []) (show (y, NameKind.free) ∈ scope.names from PySem.mem_of_lookup hl))
  have stays : ∀ {c : Addr} {v : Option Value}, H c = none → s.heap.IsCell c v → h₁.IsCell c v := by
    rintro c v n ⟨o, ho, hd⟩
    obtain ⟨sl, q⟩ := un.any ho n (by simp)
    exact ⟨_, kp _ _ q, hd⟩
  have noex : ∀ b : Addr, b ∉ (LamX.lamCx X A outer s1 HZ E scope f c').ex := by
    intro b z
    exact absurd (show b ∈ ([] : List Addr) from z) (by simp)
  refine ⟨⟨e0.mod, L.kind, rfl, rfl, Nat.le_refl _, fun y z c e1 e2 => I.ok.inj y z c (back e1) (back e2), fun y hy => ?_, fun y c z _ => ?_, fun _ => hd, Around.frames_deeper e0.frames, .inr ⟨rfl, rfl⟩, fun b z => absurd z (noex b), e0.bs, e0.bsz, fun b _ _ => noex b,
      fun b z => absurd z (noex b), e0.funs, e0.frf⟩,
    rfl, e0.bare, Un.kept kp, ⟨_, hns, fun i y v e1 e2 e3 => ?_⟩, fun y c e => ?_, e0.hok.fresh (Nat.le_refl _), fun y c e => ?_, fun q hq => absurd (show q ∈ ([] : List (Addr × Obj)) ++ [] from hq) (by simp), e0.hok.kept kp, I.len⟩
  · have hy : scope.names.lookup y = some .cell ∨ scope.names.lookup y = some .free := hy
    rcases hy with hy | hy
    · exact absurd rfl (L.nocell _ (PySem.mem_of_lookup hy))
    · exact there hy
  · have z : false = true := z
    cases z
  · have e3 : Vis scope y := e3
    have inN : y ∈ X.N := List.mem_of_getElem? e1
    rcases e3 with k | k | k
    · exact absurd inN (L.loc _ (PySem.mem_of_lookup k) rfl)
    · exact absurd rfl (L.nocell _ (PySem.mem_of_lookup k))
    · obtain ⟨m, hn, hl⟩ := I.loc
      have seen : Vis X.env.scope y := (L.free _ (PySem.mem_of_lookup k) rfl).elim (fun k => .inr (.inl k)) (fun k => .inr (.inr k))
      obtain ⟨u, r, q⟩ := hl i y v e1 e2 seen
      obtain ⟨c2, h2⟩ := there k
      refine ⟨u, r, .inr ⟨.inr k, c2, h2, ?_⟩⟩
      have c1 := back h2
      rcases q with ⟨k', _⟩ | ⟨_, c3, e', z⟩
      · have k' : X.env.scope.names.lookup y = some .local := k'
        rcases L.free _ (PySem.mem_of_lookup k) rfl with k2 | k2 <;> rw [show X.env.scope.names.lookup y = _ from k2] at k' <;> cases k'
      · rw [c1] at e'
        cases e'
        exact stays (I.freeC y _ c1) z
  · obtain ⟨u, z⟩ := I.cell y c (back e)
    exact ⟨u, stays (I.freeC y c (back e)) z⟩
  · obtain ⟨v, o, ho, hd⟩ := I.cell y c (back e)
    exact un.free c o ho (I.freeC y c (back e)) (by simp)
/-- a(), in the def that was handed the lambda -/
theorem dw_act {CXg : CXT} {Eg : XK} {Ng : List Str} {qg : Str} {sg : Scope} {g f c' : Addr} {cdg dV doc pm ctv : Value} {params : Arguments} {body : Expr} {scope : Scope} {bs : List Str} {bd : List (Str × Value)} {ks : List (Addr × Obj)} {k i : Nat} {a : Str} {pn : List (Addr × Obj)} {xe : Value → Shared → Prop} {W : WX} {tb : XK → TE} {p1 p2 : Pos}
    (I : Inv X pins σ H s) (L : LamN X.N X.env.scope scope bs) (hf : (f, kdv_obj "<lambda>" (X.env.qual ++ "<lambda>") params (.expr body) scope (cloFrom X.env.cells scope.names []) dV doc pm c' ctv) ∈ ks) (hks : ∀ q ∈ ks, Still X H s q)
    (hbind : ∀ s2 : Shared, (∀ q ∈ ks, s2.heap.get? q.1 = some q.2) → BindsTo s2 (kdv_fn "<lambda>" (X.env.qual ++ "<lambda>") params (.expr body) scope (cloFrom X.env.cells scope.names []) dV doc pm (.ref c') ctv) ⟨[], []⟩ bd) (hbs : ∀ y ∈ bd, y.1 ∈ bs)
    (tk : Takes ((cxOf CXg X.prog X.w X.K X.mg X.base Ng qg sg g cdg X.A X.stack s H Eg).tr pn xe) W) (hr : Room (k + 1) (X.A.deeper (envOfC qg sg s.heap.objs.size g cdg))) (hgd : X.A.guards = some [])
    (hbody : ∀ (A : Around) (outer : List Env) (s : Shared) (H : Hp) (E : XK), Room k (A.deeper (LamX.lamEnv X scope s.heap.objs.size f c')) → A.guards = some [] → PE (LamX.lamCx X A outer s H E scope f c') body (tb E))
    (hN : Ng[i]? = some a) (hv : Vis sg a) (hd : (a == ("__debug__" : Str)) = false) (hcd : (a == ("__classdict__" : Str)) = false) :
    PE ((cxOf CXg X.prog X.w X.K X.mg X.base Ng qg sg g cdg X.A X.stack s H Eg).tr pn xe) (.Call (.Name a p1) [] [] p2)
      (fun σZ HZ Q => σZ[i]? = some (some (.ref f)) ∧ HZ c' = some (LamX.CodeO c' (X.env.qual ++ "<lambda>")) ∧ ∃ E : XK, (∀ cls d H', E cls d H' → W cls d σZ H') ∧ tb E σ HZ Q) := by
  constructor
  rintro pinsZ sZ σZ HZ Q IZ ⟨at_i, code, E, hW, ht⟩
  refine wpAny_Call_Name_kw (thn ((pe_var (pos := p1) (i := i) hN hv hd hcd).run pinsZ sZ σZ HZ (fun v H1 => v = .ref f ∧ H1 = HZ) IZ ⟨.ref f, at_i, rfl, rfl⟩) fun u s1 ⟨v, H1, I1, r1, q1⟩ => ?_)
  obtain ⟨ev, eH⟩ := q1
  subst ev
  rw [eH] at I1
  obtain rfl : u = Value.ref f := r1
  have kept1 : ∀ q ∈ ks, s1.heap.get? q.1 = some q.2 := by
    intro q hq
    obtain ⟨a1, a2, a3⟩ := hks q hq
    exact I1.base.keep q.1 _ a1 a2 a3 (fun z => nomatch (show q.1 ∈ ([] : List Addr) from z))
  have of1 := kept1 _ hf
  refine PySem.W.callWith_F0 ⟨_, _, _, _, of1⟩ ?_
  have un : Un (frs X.stack) [] H HZ s.heap s1.heap := I1.base
  obtain ⟨⟨oc, vs, t, hoc, hdc, hvc⟩, _, _⟩ := I1.hok c' _ code
  have rc : codeAny (model X.prog X.w) (X.A.deeper (envOfC qg sg s.heap.objs.size g cdg)) (.call (.ref f) ⟨[], []⟩) (CR (L2.CX X.prog X.w) (envOfC qg sg s.heap.objs.size g cdg :: X.stack) X.prog X.w HZ s1 Q E) s1 := by
    refine PySem.W.kla_callFunE hr.depth of1 rfl L.co L.gen rfl ⟨c', oc, vs, t, rfl, hoc, hdc, hvc⟩ ?_
    refine hbind s1 kept1 _ _ _ _ (wpAny_newFunctionEnv L.nocell (fun y hy => L.par _ (hbs y hy)) (fun h₁ hns hsb => ⟨I1.nolimit.fresh _ hsb, ?_⟩) L.kind)
    show codeAny _ _ (.expr body (LamX.lamEnv X scope s1.heap.objs.size f c')) _ _
    have kp : ∀ b o, s1.heap.get? b = some o → h₁.get? b = some o := by
      intro b o e
      exact hsb.extBut b o (Nat.ne_of_lt (Heap.lt_size e)) (Heap.get?_push_of_some _ e)
    have J := lam_in (tk := s1.toks + bd.length) (A := X.A.deeper (envOfC qg sg s.heap.objs.size g cdg)) (outer := envOfC qg sg s.heap.objs.size g cdg :: X.stack) (E := E) (f := f) (c' := c') I L I1.env0 hr.hd un hns kp
    refine PySem.W.kla_codeExpr (wpAny_mono ((hbody _ _ s1 HZ E (hr.deeper _) hgd).run [] _ _ HZ Q J ht) (fun v s' hq => ?_) fun e s' hq => hq)
    obtain ⟨w', H', J', rv, q⟩ := hq
    exact ⟨w', H', J'.os, J'.bare, J'.base, J'.hok, rv, q⟩
  refine wpAny_call (codeAny_mono rc fun r s' got => ?_)
  cases r with
  | error e => exact tk e s' (XE.of_call I1 (fun cls d H' h => hW cls d H' h) got)
  | ok fl =>
    cases fl with
    | ret u => exact I1.after got
    | _ => exact False.elim got
end
end DL

namespace DL
open PySem PySem.Spec PyProof.Rows L2 PySem.W

/-- the lambda is made: what is then known -/
abbrev LamK (X : Cx) (params : Arguments) (body : Expr) (scope : Scope) (T : List (Addr × Str)) (bs : List Str) (pins : List (Addr × Obj)) (σ : L2.St) (H : Hp) (Q : Value → Shared → Prop) : Prop :=
  ∀ (f c' : Addr) (dV doc pm ctv : Value) (bd : List (Str × Value)) (ks : List (Addr × Obj)) (H1 : Hp) (s' : Shared), Inv X pins σ H1 s' → (∀ b o, H b = some o → (∀ q ∈ T, b ≠ q.1) → H1 b = some o) → LamX.Tabs T H1 →
    (f, kdv_obj "<lambda>" (X.env.qual ++ "<lambda>") params (.expr body) scope (cloFrom X.env.cells scope.names []) dV doc pm c' ctv) ∈ ks → (∀ q ∈ ks, Still X H1 s' q) →
    (∀ s2 : Shared, (∀ q ∈ ks, s2.heap.get? q.1 = some q.2) → BindsTo s2 (kdv_fn "<lambda>" (X.env.qual ++ "<lambda>") params (.expr body) scope (cloFrom X.env.cells scope.names []) dV doc pm (.ref c') ctv) ⟨[], []⟩ bd) → (∀ y ∈ bd, y.1 ∈ bs) →
    H1 c' = some (LamX.CodeO c' (X.env.qual ++ "<lambda>")) → Q (.ref f) s'
def LamMk (X : Cx) (params : Arguments) (body : Expr) (scope : Scope) (pos : Pos) (T : List (Addr × Str)) (bs : List Str) : Prop :=
  ∀ (pins : List (Addr × Obj)) (σ : L2.St) (H : Hp) (s : Shared) (E : Value → Shared → Prop) (Q : Value → Shared → Prop), Inv X pins σ H s → LamX.Tabs T H →
    LamK X params body scope T bs pins σ H Q → wpAny (model X.prog X.w) X.A (eval (.Lambda params body scope pos) X.env) Q E s
/-- where the code objects of a def's lambdas lie -/
structure LamAt (X : Cx) (T : List (Addr × Str)) : Prop where
  ex : ∃ c P, LamX.TabB X.base X.mg c P ∧ X.env.code = .ref c ∧ (P, X.env.qual ++ "<lambda>") ∈ T ∧ ∀ q ∈ T, q.1 = P → q.2 = X.env.qual ++ "<lambda>"
section
variable {X : Cx} {pins : List (Addr × Obj)} {σ : L2.St} {H : Hp} {s : Shared} {T : List (Addr × Str)} {params : Arguments} {body : Expr} {scope : Scope} {pos : Pos} {bs : List Str}
/-- with the tuple of its defaults made -/
theorem lam_tail {E : Value → Shared → Prop} {Q : Value → Shared → Prop} {dV : Value} {bd : List (Str × Value)} {ks : List (Addr × Obj)} (I : Inv X pins σ H s) (L : LamN X.N X.env.scope scope bs) (at_ : LamAt X T) (hT : LamX.Tabs T H) (hks : ∀ q ∈ ks, Still X H s q)
    (hbd : ∀ (doc pm cv ctv : Value) (s2 : Shared), (∀ q ∈ ks, s2.heap.get? q.1 = some q.2) → BindsTo s2 (kdv_fn "<lambda>" (X.env.qual ++ "<lambda>") params (.expr body) scope (cloFrom X.env.cells scope.names []) dV doc pm cv ctv) ⟨[], []⟩ bd) (hbs : ∀ y ∈ bd, y.1 ∈ bs)
    (k : LamK X params body scope T bs pins σ H Q) : wpAny (model X.prog X.w) X.A (makeTail "<lambda>" (X.env.qual ++ "<lambda>") params (.expr body) scope X.env dV .none none pos pos.line) Q E s := by
  obtain ⟨c, P, TB, hcode, hm, hu⟩ := at_.ex
  have away : ∀ b, s.heap.objs.size ≤ b → b ∉ frs X.stack := by
    intro b hb z
    rcases List.mem_cons.mp (I.stkSub _ z) with e | e
    · have h1 := I.lt
      rw [← e] at h1
      exact absurd h1 (Nat.not_lt.mpr hb)
    · exact I.nofs hb e
  obtain ⟨ps, hP, ht, ha⟩ := hT _ hm
  have hP' : s.heap.get? P = some { cls := .none, data := .fields ps } := I.hok P _ hP
  have pLt : P < s.heap.objs.size := Heap.lt_size hP'
  have mods : s.heap.BuiltinsAt X.mg P := TB.bm.keeps I.bk
  have kne : ∀ q ∈ ks, q.1 ≠ P := by
    intro q hq z
    have h2 := (hks q hq).2.1
    rw [z, hP] at h2
    cases h2
  cases hc : codeAmong pos ps.toList with
  | none =>
    refine kdv_makeTail (mg := X.mg) (c := c) (P := P) (ps := ps) (closure_ok (L.has I.ok)) I.ok.glob (I.mod.glob.keeps I.bk) hcode (TB.code.keeps I.bk) hP' ht hc TB.gP mods fun c' ctv doc h' tk hx hge hlt hrec htb => ?_
    obtain ⟨c2, oc, vs, t, e3, hoc, hd, hv⟩ := hrec
    cases e3
    have nC : H c' = none := I.hok.fresh hge
    have szle : s.heap.objs.size ≤ h'.objs.size := Nat.le_trans hge (Nat.le_of_lt hlt)
    have I3 := LamX.inv_table (t' := tk) (more := #[rawInt pos.line, rawInt pos.col, .ref c']) (h' := h'.push (kdv_obj "<lambda>" (X.env.qual ++ "<lambda>") params (.expr body) scope (cloFrom X.env.cells scope.names []) dV doc ((X.mg "__name__").getD .none) c' ctv)) I hP
      (fun b o hb e => Heap.get?_push_of_some _ (hx b o hb e)) (Heap.get?_push_of_some _ htb) hge ⟨oc, vs, t, Heap.get?_push_of_some _ hoc, hd, hv⟩
    have grown : ∀ b o, H b = some o → b ≠ P → (upd (upd H P (.tbl (ps ++ #[rawInt pos.line, rawInt pos.col, .ref c']))) c' (LamX.CodeO c' (X.env.qual ++ "<lambda>"))) b = some o := by
      intro b o e n
      rw [upd_ne (ne_of_none e nC), upd_ne n]
      exact e
    have asList : (ps ++ #[rawInt pos.line, rawInt pos.col, .ref c']).toList = ps.toList ++ [rawInt pos.line, rawInt pos.col, .ref c'] := by simp
    have noneAt : ∀ b, H b = none → b ≠ c' → b ≠ P → (upd (upd H P (.tbl (ps ++ #[rawInt pos.line, rawInt pos.col, .ref c']))) c' (LamX.CodeO c' (X.env.qual ++ "<lambda>"))) b = none := by
      intro b hb n1 n2
      rw [upd_ne n1, upd_ne n2]
      exact hb
    have codeNe : ∀ {b q}, H b = some (LamX.CodeO b q) → b ≠ P := by
      intro b q e z
      rw [z, hP] at e
      exact LamX.codeO_ne _ (Option.some.inj e).symm
    refine k h'.objs.size c' dV doc ((X.mg "__name__").getD .none) ctv bd ((h'.objs.size, _) :: ks) _ _ I3 (fun b o e n => grown b o e (n _ hm)) (fun q hq => ?_) List.mem_cons_self (fun q hq => ?_) (fun s2 h2 => hbd _ _ _ _ _ fun q hq => h2 q (List.mem_cons_of_mem _ hq)) hbs upd_same
    · by_cases hb : q.1 = P
      · rw [hu q hq hb, hb]
        refine ⟨_, by rw [upd_ne (ne_of_none hP nC), upd_same], by rw [asList]; exact PySem.TriplesOk_snoc _ _ _ _ ht, fun p' cv hcv => ?_⟩
        rw [asList] at hcv
        rcases LamX.among_app _ ht hcv with z | z
        · obtain ⟨c0, z1, z2⟩ := ha p' cv z
          exact ⟨c0, z1, grown _ _ z2 (codeNe z2)⟩
        · exact ⟨c', z, upd_same⟩
      · obtain ⟨ps', a1, a2, a3⟩ := hT q hq
        refine ⟨ps', by rw [upd_ne (ne_of_none a1 nC), upd_ne hb]; exact a1, a2, fun p' cv hcv => ?_⟩
        obtain ⟨c0, z1, z2⟩ := a3 p' cv hcv
        exact ⟨c0, z1, grown _ _ z2 (codeNe z2)⟩
    · rcases List.mem_cons.mp hq with e | hq
      · subst e
        exact ⟨Heap.get?_push_size _ rfl, noneAt _ (I.hok.fresh szle) (Nat.ne_of_gt hlt) (Nat.ne_of_gt (Nat.lt_of_lt_of_le pLt szle)), away _ szle⟩
      · obtain ⟨k1, k2, k3⟩ := hks q hq
        exact ⟨Heap.get?_push_of_some _ (hx _ _ (kne q hq) k1), noneAt _ k2 (Nat.ne_of_lt (Nat.lt_of_lt_of_le (Heap.lt_size k1) hge)) (kne q hq), k3⟩
  | some cv =>
    obtain ⟨c', e, hco⟩ := ha pos cv hc
    subst e
    refine kdv_makeTailHit (mg := X.mg) (c := c) (P := P) (ps := ps) (closure_ok (L.has I.ok)) I.ok.glob (I.mod.glob.keeps I.bk) hcode (TB.code.keeps I.bk) hP' ht hc mods fun ctv doc h' tk hx hsz => ?_
    have I3 : Inv X pins σ H { s with heap := h'.push (kdv_obj "<lambda>" (X.env.qual ++ "<lambda>") params (.expr body) scope (cloFrom X.env.cells scope.names []) dV doc ((X.mg "__name__").getD .none) c' ctv), toks := tk } := I.kept fun b o e => Heap.get?_push_of_some _ (hx b o e)
    refine k h'.objs.size c' dV doc ((X.mg "__name__").getD .none) ctv bd ((h'.objs.size, _) :: ks) _ _ I3 (fun b o e _ => e) hT List.mem_cons_self (fun q hq => ?_) (fun s2 h2 => hbd _ _ _ _ _ fun q hq => h2 q (List.mem_cons_of_mem _ hq)) hbs hco
    rcases List.mem_cons.mp hq with e | hq
    · subst e
      exact ⟨Heap.get?_push_size _ rfl, I.hok.fresh hsz, away _ hsz⟩
    · obtain ⟨k1, k2, k3⟩ := hks q hq
      exact ⟨Heap.get?_push_of_some _ (hx _ _ k1), k2, k3⟩
theorem lam_mk0 (L : LamN X.N X.env.scope scope []) (at_ : LamAt X T) (hdef : defaultsOf params X.env = ([], []))
    (hbind : ∀ (q : Str) (cl : List (Str × Addr)) (doc pm cv ctv : Value), bindArgs (kdv_fn "<lambda>" q params (.expr body) scope cl .none doc pm cv ctv) ⟨[], []⟩ = pure []) : LamMk X params body scope pos T [] := by
  intro pins σ H s E Q I hT k
  refine kla_eval hdef ?_
  rw [makeFunction_eq]
  simp only [List.zip_nil_right, List.filterMap_nil, List.isEmpty_nil, if_true, pure_bind]
  exact lam_tail (ks := []) (bd := []) I L at_ hT (fun q hq => absurd hq (by simp)) (fun doc pm cv ctv s2 _ => .of_eq (hbind _ _ _ _ _ _)) (fun y hy => absurd hy (by simp)) k
/-- with one parameter that has a number as its default -/
theorem lam_mk1 {y : Str} {n : Int} {kk : Nat} {cp : Pos} (L : LamN X.N X.env.scope scope [y]) (at_ : LamAt X T) (hdef : params.defaults = [.Constant (.int n) kk cp]) (hkw : params.kw_defaults = [])
    (hbind : ∀ (q : Str) (cl : List (Str × Addr)) (t : Addr) (u doc pm cv ctv : Value) (s2 : Shared), s2.heap.get? t = some (kdv_tup [u]) → BindsTo s2 (kdv_fn "<lambda>" q params (.expr body) scope cl (.ref t) doc pm cv ctv) ⟨[], []⟩ [(y, u)]) : LamMk X params body scope pos T [y] := by
  intro pins σ H s E Q I hT k
  refine kdv_lam (by rw [hdef]; rfl) hkw ?_
  rw [hdef]
  have num : PE X.nox (.Constant (.int n) kk cp) (tC (.int n)) := pe_int
  refine kdv_all1 (wpAny_mono (num.run pins s σ H (fun v H1 => v = .int n ∧ H1 = H) (I.wish _) ⟨rfl, rfl⟩) (fun u s1 hu1 => kdv_all0 ?_) fun _ _ z => False.elim z)
  obtain ⟨v, H0, J1, rv, e1, e2⟩ := hu1
  rw [e2] at J1
  have I1 : Inv X pins σ H s1 := J1.unwish
  rw [makeFunction_eq]
  simp only [List.zip_nil_right, List.filterMap_nil, List.isEmpty_nil, List.isEmpty_cons, if_true, pure_bind, Bool.false_eq_true, if_false]
  refine wpAny_bind (wpAny_newTextTuple ?_)
  have I2 : Inv X pins σ H { s1 with heap := s1.heap.push (kdv_tup [u]) } := I1.kept fun b o e => Heap.get?_push_of_some _ e
  have st : Still X H { s1 with heap := s1.heap.push (kdv_tup [u]) } (s1.heap.objs.size, kdv_tup [u]) := by
    refine ⟨Heap.get?_push_size _ rfl, I1.hok.fresh (Nat.le_refl _), fun z => ?_⟩
    rcases List.mem_cons.mp (I1.stkSub _ z) with e | e
    · have h1 := I1.lt
      rw [← e] at h1
      exact absurd h1 (Nat.lt_irrefl _)
    · exact I1.nofs (Nat.le_refl _) e
  refine lam_tail (ks := [(s1.heap.objs.size, kdv_tup [u])]) (bd := [(y, u)]) I2 L at_ hT (fun q hq => ?_) (fun doc pm cv ctv s2 h2 => hbind _ _ _ _ _ _ _ _ _ (h2 _ List.mem_cons_self)) (fun z hz => ?_) k
  · obtain rfl := List.mem_singleton.mp hq
    exact st
  · obtain rfl := List.mem_singleton.mp hz
    exact List.mem_cons_self
end
end DL

namespace DL
open PySem PySem.Spec PyProof.Rows L2 PySem.W

/-! ### a def that asks what it was handed, and tells a word -/
/-- what a call ends in: a value, or an error -/
abbrev Outc := TV ⊕ Exn
abbrev SpecW := Outc → (RV → Prop) → Prop
/-- what the thing handed over does, from (hd, P, H) on -/
def Does (c : Cfg) (hd : Hd) (P : Pd) (H : Hp) (O : Outc → Prop) (tl : XK → Hp → VK → Prop) : Prop :=
  ∀ hd2 P2 H2, Grow c hd P H hd2 P2 H2 → ∀ (E : XK) (Q : VK), (∀ t, O (.inl t) → ∀ v hd3 P3 H3, Grow c hd2 P2 H2 hd3 P3 H3 → Res c hd3 P3 H2 H3 v t → Q v H3) →
    (∀ x, O (.inr x) → ∀ hd3 P3 H3, Grow c hd2 P2 H2 hd3 P3 H3 → ∀ cls d, RepX c x cls d → E cls d H3) → tl E H2 Q
/-- a() within a try's body -/
abbrev Act (Z : Cx) (a : Str) (f c' : Addr) (q : Str) (tl : XK → Hp → VK → Prop) : Prop :=
  ∀ (W : WX) (pn : List (Addr × Obj)) (xe : Value → Shared → Prop) (p1 p2 : Pos), Takes (Z.tr pn xe) W →
    PE (Z.tr pn xe) (.Call (.Name a p1) [] [] p2) (fun σZ HZ Q => σZ[0]? = some (some (.ref f)) ∧ HZ c' = some (LamX.CodeO c' q) ∧ ∃ E : XK, (∀ cls d H', E cls d H' → W cls d σZ H') ∧ tl E HZ Q)
/-- statements of a def whose entry is known -/
def tDSf (c : Cfg) (F : Ent) (f : FS) : TS := fun D σ H => ∃ γ hd P K0, StF c F γ σ hd P H ∧ f γ K0 ∧ EndsOk c F P H K0 D
abbrev DSf (hv : Hv) (X : Cx) (F : Ent) (st : Stmt) (f : FS) : Prop := PS X st (tDSf ⟨X.K, hv⟩ F f)
abbrev DSsf (hv : Hv) (X : Cx) (F : Ent) (st : List Stmt) (f : FS) : Prop := PSs X st (tDSf ⟨X.K, hv⟩ F f)
section
variable {X : Cx} {hv : Hv} {F : Ent} {st : Stmt} {sts : List Stmt} {f g : FS}
theorem dsf_of (h : DS hv X st f) : DSf hv X F st f := ps_imp h fun _ _ _ ⟨γ, hd, P, K0, S, q, ok⟩ => ⟨F, γ, hd, P, K0, S, q, ok⟩
theorem dssf_of (h : DSs hv X sts f) : DSsf hv X F sts f := pss_imp h fun _ _ _ ⟨γ, hd, P, K0, S, q, ok⟩ => ⟨F, γ, hd, P, K0, S, q, ok⟩
theorem dssf_one (h : DSf hv X F st f) : DSsf hv X F [st] f := pss_one h
theorem dssf_cons (h1 : DSf hv X F st f) (h2 : DSsf hv X F sts g) : DSsf hv X F (st :: sts) (dSeq2 f g) :=
  pss_imp (pss_cons h1 h2) fun D σ H ⟨γ, hd, P, K0, S, q, ok⟩ => ⟨γ, hd, P, _, S, q, ⟨fun γ' q' σ' hd' P' H' S' ev => ⟨γ', hd', P', K0, S', q', ok.later ev⟩, ok.bk, ok.ct, ok.rt⟩⟩
end
theorem Sta.setNon {c : Cfg} {γ : Gam} {σ : L2.St} {hd : Hd} {P : Pd} {H : Hp} (S : Sta c γ σ hd P H) (i : Nat) : Sta c (γ.set i .non) (σ.set i none) hd P H := by
  have key : ∀ (k : Nat) s, (γ.set i .non)[k]? = some s → s ≠ .non → k ≠ i ∧ γ[k]? = some s ∧ (σ.set i none)[k]? = σ[k]? := by
    intro k s e n
    by_cases hk : i = k
    · subst hk
      by_cases hl : i < γ.length
      · rw [List.getElem?_set_self hl] at e; exact absurd (Option.some.inj e).symm n
      · rw [List.getElem?_eq_none (by rw [List.length_set]; omega)] at e; cases e
    · rw [List.getElem?_set_ne hk] at e
      exact ⟨fun z => hk z.symm, e, List.getElem?_set_ne hk⟩
  refine ⟨by rw [List.length_set, List.length_set]; exact S.len, fun k r e => ?_, fun k ds e => ?_, fun k kvs e => ?_, fun a b s t p ea eb oa ob ha hb => ?_, S.j⟩
  · obtain ⟨_, e1, e2⟩ := key k _ e (fun z => by cases z)
    rw [e2]; exact S.pl k r e1
  · obtain ⟨_, e1, e2⟩ := key k _ e (fun z => by cases z)
    rw [e2]; exact S.ol k ds e1
  · obtain ⟨_, e1, e2⟩ := key k _ e (fun z => by cases z)
    rw [e2]; exact S.od k kvs e1
  · obtain ⟨_, e1, e2⟩ := key a _ ea (fun z => by rw [z] at oa; cases oa)
    obtain ⟨_, e3, e4⟩ := key b _ eb (fun z => by rw [z] at ob; cases ob)
    rw [e2] at ha
    rw [e4] at hb
    exact S.dis a b s t p e1 e3 oa ob ha hb
theorem StF.setNon {c : Cfg} {F : Ent} {γ : Gam} {σ : L2.St} {hd : Hd} {P : Pd} {H : Hp} (S : StF c F γ σ hd P H) (i : Nat) : StF c F (γ.set i .non) (σ.set i none) hd P H :=
  ⟨S.s.setNon i, S.g, S.j0, fun k s p e o q => by
    by_cases hk : i = k
    · subst hk
      by_cases hl : i < γ.length
      · rw [List.getElem?_set_self hl] at e; cases e; cases o
      · rw [List.getElem?_eq_none (by rw [List.length_set]; omega)] at e; cases e
    · rw [List.getElem?_set_ne hk] at e q
      exact S.fr k s p e o q⟩
/-- try: a() / except FireError as n (slot i): suite -/
def dTryW (cl : List Str) (i : Nat) (mS : Exn → Addr → FS) (O : Outc → Prop) (f : Addr) : FS := fun γ K =>
  γ[0]? = some (.pl (.raw (.ref f))) ∧ (∀ t, O (.inl t) → K.nx γ) ∧ ∀ x, O (.inr x) → x ∈ cl ∧ ∀ a, mS x a (γ.set i (.pl (.raw (.ref a)))) { nx := fun γ' => K.nx (γ'.set i .non), rt := K.rt }
section
variable {Z : Cx} {hv : Hv} {F : Ent} {a n : Str} {f c' : Addr} {q : Str} {tl : XK → Hp → VK → Prop} {O : Outc → Prop} {cl al : List Str} {i : Nat} {mS : Exn → Addr → FS} {b0 : Stmt} {suite : List Stmt} {p1 p2 p3 np pos pos' : Pos}
theorem nhd_code {c : Cfg} {hd : Hd} {P : Pd} {H : Hp} (j : J c hd P H) (h : H c' = some (LamX.CodeO c' q)) : ¬ hdA hd c' :=
  j.hand.no h (fun vs z => by unfold LamX.CodeO at z; cases z) fun ps z => LamX.codeO_ne ps (Option.some.inj z)
theorem dsf_try (act : Act Z a f c' q tl) (hF : F.H c' = some (LamX.CodeO c' q)) (does : Does ⟨Z.K, hv⟩ F.hd F.P F.H O tl) (G : ExF cl al Z.K Z.mg) (hnd : Z.N.Nodup) (hi : Z.N[i]? = some n) (hln : Z.env.kindOf n = some .local)
    (hs : Z.stack = Z.env :: Z.outer) (hf : Z.env.frame = some Z.env.locals) (hg : Gl Z "FireError")
    (su : ∀ (ea : Addr) (oe : Obj) (pn : List (Addr × Obj)) (x : Exn), x ∈ cl → Zc (.ref (He.ga Z.K x)) none oe → (∃ vs, oe.data = .fields vs) → DSs hv (Z.suite ea ((ea, oe) :: pn)) (b0 :: suite) (mS x ea)) :
    DSf hv Z F (.Try [.Expr (.Call (.Name a p1) [] [] p2) p3] [.ExceptHandler (some (.Name "FireError" np)) (some n) (b0 :: suite) pos'] [] [] pos) (dTryW cl i mS O f) := by
  obtain ⟨fe, hfe, hroot⟩ := G.root
  refine ps_imp (ps_try_as (X := Z) (c := .ref fe) (Wout := fun _ _ _ _ => False) (i := i)
    (tb := fun W D σ H => σ[0]? = some (some (.ref f)) ∧ H c' = some (LamX.CodeO c' q) ∧ ∃ E : XK, (∀ cls d H', E cls d H' → W cls d σ H') ∧ tl E H fun _ H' => D.nx σ H')
    (ts := fun ea cls d D σ H => ∃ x ∈ cl, cls = .ref (He.ga Z.K x) ∧ d = none ∧ tDS ⟨Z.K, hv⟩ (mS x ea) D σ H)
    hs hf hnd hi hln ⟨hg, by decide, .inl hfe⟩ LamX.takes0 (fun W pn xe tk _ => ?_) (fun ea oe cls d pn hz hv => ?_)) ?_
  · have h1 := ps_expr (pos := p3) (act W pn xe p1 p2 tk)
    exact pss_one (ps_imp h1 fun D σ H h => h)
  · refine ⟨fun pins s σ H D I ⟨x, hx, e1, e2, h⟩ => ?_⟩
    subst e1 e2
    exact (su ea oe pn x hx hz hv).run pins s σ H D I h
  · rintro D σ H ⟨γ, hd, P, K0, S, ⟨h0, hn, hx⟩, ok⟩
    obtain ⟨v, hv0, rv⟩ := S.s.pl 0 _ h0
    obtain rfl : v = V.ref f := rv
    refine ⟨hv0, S.g.keep _ _ hF (nhd_code S.j0 hF), fun cls d H' => ∃ x, O (.inr x) ∧ RepX ⟨Z.K, hv⟩ x cls d ∧ ∃ hd' P', Grow ⟨Z.K, hv⟩ hd P H hd' P' H', fun cls d H' ⟨x, ox, ⟨e1, e2⟩, hd', P', g⟩ => ?_, ?_⟩
    · obtain ⟨hm, hs⟩ := hx x ox
      refine ⟨true, by rw [e1]; exact hroot x hm, fun _ ea hea => ⟨x, hm, e1, e2, ?_⟩, fun z => by cases z⟩
      have S1 : StF ⟨Z.K, hv⟩ F γ σ hd' P' H' := S.grow g
      have S2 := S1.setPl i (v := .ref ea) (r := .raw (.ref ea)) rfl
      have ok1 := ok.later (g.kept S.s.j)
      exact ⟨F, _, hd', P', _, S2, hs ea, ⟨fun γ' q' σ' hd2 P2 H2 S' ev => ok1.nx _ q' _ hd2 P2 H2 (S'.setNon i) ev, fun _ z => z.elim, fun _ z => z.elim, ok1.rt⟩⟩
    · refine does hd P H S.g _ _ (fun t ot v hd3 P3 H3 g3 _ => ?_) fun x ox hd3 P3 H3 g3 cls d r => ⟨x, ox, r, hd3, P3, g3⟩
      exact ok.nx γ (hn t ot) σ hd3 P3 H3 (S.grow g3) (g3.kept S.s.j)
end
/-- such a def's promise -/
def Wrd (hv : Hv) (P : Program) (w : World) (K : PySem.W.Frag) (mg : Str → Option Value) (base : Heap) (k : Nat) (x : Str) (sp : SpecW) : Prop :=
  ∃ (st : Stmt) (N : List Str) (a : Str) (g : Addr) (fd : FuncData), mg x = some (.ref g) ∧ FunD K x x (defArgs st) (defBody st) (defScope st) [] [] g fd ∧ FnScope N [a] (defScope st) ∧ (N[0]? = some a ∧ Vis (defScope st) a ∧ (a == ("__debug__" : Str)) = false ∧ (a == ("__classdict__" : Str)) = false) ∧
    (∀ (kV doc pm : Value) (an : Option Addr) (cdv ct : Value) (us : List Value), us.length = [a].length → bindArgs (PySem.W.fnOf x x (defArgs st) (defBody st) (defScope st) .none kV doc pm an cdv ct) ⟨us, []⟩ = pure ([a].zip us)) ∧
    ∀ (cdv : Value) (A : Around) (outer : List Env) (s : Shared) (H : Hp) (hd : Hd) (Pp : Pd) (f c' : Addr) (q : Str) (tl : XK → Hp → VK → Prop) (R : RV → Prop) (Q : VK), Room k (A.deeper (envOfC x (defScope st) s.heap.objs.size g cdv)) → A.guards = some [] → J ⟨K, hv⟩ hd Pp H →
      H c' = some (LamX.CodeO c' q) → Does ⟨K, hv⟩ hd Pp H (fun o => sp o R) tl → Act (cxOf CX0 P w K mg base N x (defScope st) g cdv A outer s H E0).nox a f c' q tl →
      (∀ r, R r → ∀ v hd' P' H', Grow ⟨K, hv⟩ hd Pp H hd' P' H' → RepV ⟨K, hv⟩ hd' P' H' v r → Q v H') →
      ∃ t, PSs (cxOf CX0 P w K mg base N x (defScope st) g cdv A outer s H E0).nox (defBody st) t ∧ t { nx := fun _ H' => Q .non H', rt := Q } (L2.start N [.ref f]) H
def MeetsW (n : Nat) (m : (Outc → Prop) → Addr → FS) (sp : SpecW) : Prop := ∀ (f : Addr) (R : RV → Prop), m (fun o => sp o R) f (gam0 n [.raw (.ref f)]) (kTo R)
theorem Wrd.mono {hv : Hv} {P : Program} {w : World} {K : PySem.W.Frag} {mg : Str → Option Value} {base : Heap} {j k : Nat} {x : Str} {sp : SpecW} (h : Wrd hv P w K mg base j x sp) (l : j ≤ k) : Wrd hv P w K mg base k x sp := by
  obtain ⟨st, N, a, g, fd, h1, h2, h3, h4, h5, h6⟩ := h
  exact ⟨st, N, a, g, fd, h1, h2, h3, h4, h5, fun cdv A outer s H hd Pp f c' q tl R Q hr => h6 cdv A outer s H hd Pp f c' q tl R Q (hr.mono l)⟩
theorem wrd_ok {hv : Hv} {P : Program} {w : World} {K : PySem.W.Frag} {mg : Str → Option Value} {base : Heap} {k : Nat} {x a : Str} {st : Stmt} {N : List Str} {sp : SpecW} {m : (Outc → Prop) → Addr → FS} (D : Defd K mg x st) (S : FnScope N [a] (defScope st))
    (h0 : N[0]? = some a ∧ Vis (defScope st) a ∧ (a == ("__debug__" : Str)) = false ∧ (a == ("__classdict__" : Str)) = false)
    (hb : ∀ (kV doc pm : Value) (an : Option Addr) (cdv ct : Value) (us : List Value), us.length = [a].length → bindArgs (PySem.W.fnOf x x (defArgs st) (defBody st) (defScope st) .none kV doc pm an cdv ct) ⟨us, []⟩ = pure ([a].zip us))
    (body : ∀ (g : Addr) (cdv : Value) (A : Around) (outer : List Env) (s : Shared) (H : Hp) (F : Ent) (f c' : Addr) (q : Str) (tl : XK → Hp → VK → Prop) (O : Outc → Prop), Room k (A.deeper (envOfC x (defScope st) s.heap.objs.size g cdv)) → (A.deeper (envOfC x (defScope st) s.heap.objs.size g cdv)).guards = some [] →
      Act (cxOf CX0 P w K mg base N x (defScope st) g cdv A outer s H E0).nox a f c' q tl → F.H c' = some (LamX.CodeO c' q) → Does ⟨K, hv⟩ F.hd F.P F.H O tl → DSsf hv (cxOf CX0 P w K mg base N x (defScope st) g cdv A outer s H E0).nox F (defBody st) (m O f))
    (meets : MeetsW N.length m sp) : Wrd hv P w K mg base k x sp := by
  obtain ⟨g, fd, hm, FD⟩ := D
  refine ⟨st, N, a, g, fd, hm, FD, S, h0, hb, fun cdv A outer s H hd Pp f c' q tl R Q hr hgd j hc does act hQ => ?_⟩
  refine ⟨_, body g cdv A outer s H ⟨hd, Pp, H⟩ f c' q tl (fun o => sp o R) hr hgd act hc does, ?_⟩
  have r : RepVs ⟨K, hv⟩ hd Pp H [V.ref f] [.raw (.ref f)] := .cons rfl .nil
  refine ⟨gam0 N.length [.raw (.ref f)], hd, Pp, kTo R, ⟨sta_start j r, j.refl, j, fun i s p e o _ => ?_⟩, meets f R, ⟨fun γ' q' σ' hd' P' H' S' _ => hQ _ q' _ hd' P' H' S'.g Rep.non, fun γ' z => z.elim, fun γ' z => z.elim, fun t qt v hd' P' H' g1 r1 => ?_⟩⟩
  · unfold gam0 at e
    have hm := List.mem_of_getElem? e
    rw [List.mem_append] at hm
    rcases hm with hm | hm
    · obtain ⟨r0, _, z⟩ := List.mem_map.mp hm
      rw [← z] at o; cases o
    · rw [List.eq_of_mem_replicate hm] at o; cases o
  · obtain ⟨r0, e0, q0⟩ := of_onS qt
    obtain ⟨P2, m2, r2⟩ := Res.toRV g1.j r1 e0
    exact hQ r0 q0 v hd' P2 H' (g1.more m2) r2

/-! ### w(lambda: e) -/
def tBoth (c : Cfg) (m : FE) (xm : FX) (E : XK) : TE := fun σ H Q => tD c m σ H Q ∨ tDX c (wE E) xm σ H Q
theorem pe_both {X : Cx} {hv : Hv} {e : Expr} {m : FE} {xm : FX} {E : XK} (h1 : DE hv X e m) (h2 : DEX hv X (wE E) e xm) : PE X e (tBoth ⟨X.K, hv⟩ m xm E) :=
  ⟨fun pins s σ H Q I h => h.elim (fun z => h1.run pins s σ H Q I z) fun z => h2.run pins s σ H Q I z⟩
theorem dex_none {X : Cx} {hv : Hv} {e : Expr} {W : WX} : DEX hv X W e xNo := ⟨fun _ _ _ _ _ _ ⟨_, _, _, _, _, q, _⟩ => q.elim⟩
theorem de_none {X : Cx} {hv : Hv} {e : Expr} : DE hv X e (fun _ _ => False) := ⟨fun _ _ _ _ _ _ ⟨_, _, _, _, _, q, _⟩ => q.elim⟩
def dWord (sp : SpecW) (m : FE) (xm : FX) : FE := fun γ Q => m γ (fun t => sp (.inl t) fun r => Q (.pl r)) ∨ xm γ fun x => sp (.inr x) fun r => Q (.pl r)
section
variable {X : Cx} {hv : Hv} {k : Nat} {x : Str} {sp : SpecW} {m : FE} {xm : FX} {params : Arguments} {body : Expr} {scope : Scope} {bs : List Str} {p lpos pos : Pos}
theorem de_word (Wd : Wrd hv X.prog X.w X.K X.mg X.base (k + 1) x sp) (mk : LamMk X params body scope lpos hv.T bs) (L : LamN X.N X.env.scope scope bs) (hr : Room (k + 2) X.A) (hgd : X.A.guards = some [])
    (hbody : ∀ (A : Around) (outer : List Env) (s : Shared) (H : Hp) (E : XK) (f c' : Addr), Room k (A.deeper (LamX.lamEnv X scope s.heap.objs.size f c')) → (A.deeper (LamX.lamEnv X scope s.heap.objs.size f c')).guards = some [] → Takes (LamX.lamCx X A outer s H E scope f c') (wE E) → PE (LamX.lamCx X A outer s H E scope f c') body (tBoth ⟨X.K, hv⟩ m xm E))
    (hg : Gl X x := by rfl) (hdb : (x == ("__debug__" : Str)) = false := by decide) : DE hv X (.Call (.Name x p) [.Lambda params body scope lpos] [] pos) (dWord sp m xm) := by
  obtain ⟨st, N, a, g, fd, hm, FD, S, ⟨n0, va, d1, d2⟩, hb, all⟩ := Wd
  have hb2 := FD.bindsN hb
  have hk := FD.kp
  obtain ⟨oc, od, dV, kV, doc, pm, an, cdv, ct, osl, rfl, lk, hcd, _, _⟩ := FD.ex
  refine ⟨fun pins s σ H Q I h => ?_⟩
  obtain ⟨γ, hd, Pp, Q0, St, q, kk⟩ := h
  have hT : LamX.Tabs hv.T H := by
    have := St.j.hand.t
    rw [St.j.hand.e] at this
    exact this
  refine wpAny_Call_Name_kw (ld_glob I hg hm ?_ hdb)
  refine PySem.W.callWith_K (h₀ := X.base) I.ok.mod.kin hk ?_ (by rfl) (by rfl)
  show wpAny _ _ (spliced ((false, eval (.Lambda params body scope lpos) X.env) :: backTo pos (starEach [] X.env))) _ _ s
  refine Calls.spliced_cons (mk pins σ H s _ _ I hT fun f c' dV2 doc2 pm2 ctv2 bd ks H1 s' I1 eN T1 hf hks hbd hbs hco => ?_)
  refine Calls.spliced_nil ⟨I1.kIn, ?_⟩
  have keep : ∀ a o, H a = some o → ¬ hdA hd a → H1 a = some o := by
    intro b o e n
    refine eN b o e fun t ht z => n (.inr ⟨t, ?_, z⟩)
    rw [St.j.hand.e]
    exact ht
  have j1 : J ⟨X.K, hv⟩ hd Pp H1 := by
    refine ⟨fun b hb => ?_, ⟨?_, by rw [St.j.hand.e]; exact T1, St.j.hand.e⟩, St.j.hnp⟩
    · cases e : H b with
      | none => exact absurd e (St.j.ptr b hb)
      | some o =>
        rw [keep b o e fun z => St.j.hnp b z hb]
        exact Option.some_ne_none o
    · have hi := St.j.hand.i
      cases e : hd.h with
      | none => trivial
      | some pq =>
        rw [e] at hi
        obtain ⟨n1, ns, ms, h1, h2, h3⟩ := hi
        have nt : ∀ b vs, H b = some (.lst vs) → ∀ t ∈ hv.T, b ≠ t.1 := by
          intro b vs e2 t ht z
          obtain ⟨ps, t1, _⟩ := hT t ht
          rw [z, t1] at e2
          cases e2
        exact ⟨n1, ns, ms, eN _ _ h1 (nt _ _ h1), eN _ _ h2 (nt _ _ h2), h3⟩
  have g1 : Grow ⟨X.K, hv⟩ hd Pp H hd Pp H1 := ⟨fun _ z => z, fun _ z => .inl z, keep, .inl rfl, j1⟩
  have St1 := St.grow g1
  have rc : codeAny (model X.prog X.w) X.A (.call (.ref g) ⟨[.ref f], []⟩) (CR CX0 X.stack X.prog X.w H1 s' Q E0) s' := by
    have bb := hb2 s' [.ref f] I1.kIn rfl
    refine LamX.run_ofS (N := N) (ps := [a]) (us := [.ref f]) (vs := [.ref f]) lk hcd S (k := k + 1) hr I1.env0 bb (.cons rfl .nil) rfl fun hr' => ?_
    have dd : Does ⟨X.K, hv⟩ hd Pp H1 (fun o => sp o fun r => Q0 (.pl r)) (fun E H' Q' => tBoth ⟨X.K, hv⟩ m xm E σ H' Q') := by
      intro hd2 P2 H2 g2 E Q' hN hX
      have S2 := St1.grow g2
      rcases q with q | q
      · exact .inl ⟨γ, hd2, P2, _, S2, q, fun t qt v hd3 P3 H3 g3 r3 => hN t qt v hd3 P3 H3 g3 r3⟩
      · exact .inr ⟨γ, hd2, P2, _, S2, q, fun x qx hd3 P3 H3 g3 cls d rx => hX x qx hd3 P3 H3 g3 cls d rx⟩
    have act : Act (cxOf CX0 X.prog X.w X.K X.mg X.base N x (defScope st) g cdv X.A X.stack s' H1 E0).nox a f c' (X.env.qual ++ "<lambda>") (fun E H' Q' => tBoth ⟨X.K, hv⟩ m xm E σ H' Q') := by
      intro W pn xe p1 p2 tk
      exact dw_act (CXg := CX0) (Eg := E0) (i := 0) I1 L hf hks hbd hbs tk hr' hgd (fun A outer s H E hr2 hg2 => hbody A outer s H E f c' hr2 hg2 (takes_of rfl rfl rfl rfl)) n0 va d1 d2
    obtain ⟨t, ht, hq⟩ := all cdv X.A X.stack s' H1 hd Pp f c' (X.env.qual ++ "<lambda>") _ (fun r => Q0 (.pl r)) Q hr' hgd j1 hco dd act fun r hr0 v hd' P' H' g rv => kk _ hr0 v hd' P' H' (g1.trans St.j g) rv
    exact ⟨t, ht.nox, hq⟩
  refine wpAny_call (codeAny_mono rc fun r s2 got => ?_)
  cases r with
  | error e => exact False.elim got
  | ok fl =>
    cases fl with
    | ret u => exact I1.after got
    | _ => exact False.elim got
end
end DL

namespace DL
open PySem PySem.Spec PyProof.Rows L2 PySem.W

/-! ### in an except suite -/
def dIsE (i : Nat) (ea : Addr) (b : Bool) : FE := fun γ Q => γ[i]? = some (.pl (.raw (.ref ea))) ∧ Q (bv b)
@[simp] theorem ev_isE {i : Nat} {ea : Addr} {b : Bool} {γ : Gam} {Q : TV → Prop} : dIsE i ea b γ Q = (γ[i]? = some (.pl (.raw (.ref ea))) ∧ Q (.pl (.d (.bool b)))) := rfl
section
variable {X : Cx} {hv : Hv} {ea : Addr} {oe : Obj} {pn : List (Addr × Obj)} {cl al : List Str} {x T : Exn} {i k : Nat} {e : Expr} {p p2 pos : Pos}
theorem t_isE {σ : L2.St} {H : Hp} {Q : VK} {K : PySem.W.Frag} {b : Bool} {c : V} {cv : Value} (hb : PySem.W.kitOne K (.ref (He.ga K x)) cv = some b) (hc : ∀ u, RelV c u → u = cv) (h : tD ⟨K, hv⟩ (dIsE i ea b) σ H Q) :
    tCB (rIsE K (He.ga K x) ea) (tCons (tVar i) (tCons (tC c) tNil)) σ H Q := by
  obtain ⟨γ, hd, P, Q0, S, ⟨h0, q⟩, k⟩ := h
  obtain ⟨v, hv0, rv⟩ := S.pl i _ h0
  obtain rfl : v = V.ref ea := rv
  exact ⟨_, hv0, c, cv, b, rfl, hc, hb, k _ q _ hd P H S.j.refl (Rep.bl b)⟩
theorem de_isE (G : ExF cl al X.K X.mg) (hx : x ∈ cl) (hT : al[k]? = some T) (hz : Zc (.ref (He.ga X.K x)) none oe) (hf : ∃ vs, oe.data = .fields vs) (he : PE (X.suite ea ((ea, oe) :: pn)) e (tVar i)) (hm : X.mg "isinstance" = none) (hg : Gl (X.suite ea ((ea, oe) :: pn)) "isinstance" := by rfl) (hg2 : Gl (X.suite ea ((ea, oe) :: pn)) T := by rfl) (hdb : (T == ("__debug__" : Str)) = false := by decide)
    (hs : starEach (e :: [.Name T p2]) X.env = (false, eval e X.env) :: starEach [.Name T p2] X.env := by rfl) (hpl : (backTo pos (starEach [.Name T p2] X.env)).any (·.1) = false := by rfl) :
    DE hv (X.suite ea ((ea, oe) :: pn)) (.Call (.Name "isinstance" p) [e, .Name T p2] [] pos) (dIsE i ea (decide (x = T))) := by
  have mT := List.mem_of_getElem? hT
  exact pe_imp (pe_callB (X := X.suite ea ((ea, oe) :: pn)) (call_isE (G.is x hx) hz hf) hg hm PyProof.Rows.boot_isinstance (pa_cons he (pa_cons (pe_glob (v := .ref (He.ga X.K T)) hg2 (G.g T mT) rfl hdb) pa_nil) hs) (by decide) (by decide) hs hpl)
    fun σ H Q h => t_isE (G.kit x hx T mT) (fun u r => r) h
theorem de_isV (G : ExF cl al X.K X.mg) (hx : x ∈ cl) (hz : Zc (.ref (He.ga X.K x)) none oe) (hf : ∃ vs, oe.data = .fields vs) (he : PE (X.suite ea ((ea, oe) :: pn)) e (tVar i)) (hm : X.mg "isinstance" = none) (hm2 : X.mg "ValueError" = none) (hg : Gl (X.suite ea ((ea, oe) :: pn)) "isinstance" := by rfl) (hg2 : Gl (X.suite ea ((ea, oe) :: pn)) "ValueError" := by rfl)
    (hs : starEach (e :: [.Name "ValueError" p2]) X.env = (false, eval e X.env) :: starEach [.Name "ValueError" p2] X.env := by rfl) (hpl : (backTo pos (starEach [.Name "ValueError" p2] X.env)).any (·.1) = false := by rfl) :
    DE hv (X.suite ea ((ea, oe) :: pn)) (.Call (.Name "isinstance" p) [e, .Name "ValueError" p2] [] pos) (dIsE i ea true) :=
  pe_imp (pe_callB (X := X.suite ea ((ea, oe) :: pn)) (call_isE (G.is x hx) hz hf) hg hm PyProof.Rows.boot_isinstance (pa_cons he (pa_cons (pe_bltn (v := .ty "ValueError") hg2 hm2 (u := .type "ValueError") (by rfl) rfl (by decide) (by decide)) pa_nil) hs) (by decide) (by decide) hs hpl)
    fun σ H Q h => t_isE (G.kitV x hx) (fun u r => r) h
end

/-! ### names of defs as values -/
def dFn (x : Str) : FE := fun _ Q => Q (.pl (.fn x))
/-- the defs that a variable may stand for, with their promises -/
def dCallV (tb : List (Str × Spec)) (i : Nat) (fr : FA) : FE := fun γ Q => ∃ x S, (x, S) ∈ tb ∧ γ[i]? = some (.pl (.fn x)) ∧ dCall S fr γ Q
def xCallV (tb : List (Str × SpecX)) (i : Nat) (fr : FA) : FX := fun γ X0 => ∃ x S, (x, S) ∈ tb ∧ γ[i]? = some (.pl (.fn x)) ∧ xCall S fr γ X0
/-- a promise, with the place where the def lies -/
def FnA (hv : Hv) (P : Program) (w : World) (K : PySem.W.Frag) (mg : Str → Option Value) (base : Heap) (k : Nat) (x : Str) (sp : Spec) : Prop :=
  mg x = some (.ref (He.ga K x)) ∧ ∃ ps, Fn hv P w K mg base k x ps sp
def FnXA (hv : Hv) (P : Program) (w : World) (K : PySem.W.Frag) (mg : Str → Option Value) (base : Heap) (k : Nat) (x : Str) (sp : SpecX) : Prop :=
  mg x = some (.ref (He.ga K x)) ∧ ∃ ps, FnX hv P w K mg base k x ps sp
section
variable {X : Cx} {hv : Hv} {k i : Nat} {x a : Str} {p pos : Pos} {e : Expr} {es : List Expr} {fr : FA} {W : WX}
theorem de_fname (h : X.mg x = some (.ref (He.ga X.K x))) (hg : Gl X x := by rfl) (hdb : (x == ("__debug__" : Str)) = false := by decide) : DE hv X (.Name x pos) (dFn x) :=
  pe_imp (pe_glob (v := .ref (He.ga X.K x)) hg h rfl hdb) fun σ H Q ⟨γ, hd, P, Q0, S, f, k⟩ => k _ f _ hd P H S.j.refl rfl
theorem de_callV {tb : List (Str × Spec)} (A : ∀ q ∈ tb, FnA hv X.prog X.w X.K X.mg X.base k q.1 q.2) (hr : Room k X.A) (hgd : X.A.guards = some []) (hx : PE X (.Name a p) (tVar i)) (ha : DA hv X (e :: es) fr)
    (he : starEach (e :: es) X.env = (false, eval e X.env) :: starEach es X.env := by rfl) (hpl : (backTo pos (starEach es X.env)).any (·.1) = false := by rfl) : DE hv X (.Call (.Name a p) (e :: es) [] pos) (dCallV tb i fr) := by
  refine ⟨fun pins s σ H Q I h => ?_⟩
  obtain ⟨γ, hd, P, Q0, St, ⟨x, S, hm, h0, q⟩, kk⟩ := h
  obtain ⟨v, hv0, rv⟩ := St.pl i _ h0
  obtain rfl : v = V.ref (He.ga X.K x) := rv
  obtain ⟨hmg, ps, f, fd, h1, h2, h3, h4⟩ := A _ hm
  have h1 : X.mg x = some (.ref f) := h1
  rw [hmg] at h1
  cases h1
  refine wpAny_Call_Name_kw (thn (hx.run pins s σ H (fun v H1 => v = .ref (He.ga X.K x) ∧ H1 = H) I ⟨_, hv0, rfl, rfl⟩) fun u s1 ⟨v, H1, I1, r1, q1⟩ => ?_)
  obtain ⟨rfl, rfl⟩ := q1
  cases r1
  have rd := t_call (E := E0) (sp := S) (fr := fr) (hv := hv) σ H1 Q ⟨γ, hd, P, Q0, St, q, kk⟩
  refine PySem.W.callWith_K (h₀ := X.base) I.ok.mod.kin h2 (thn (ha.run pos pins s1 σ H1 _ I1 rd) fun us s2 ⟨vs, H2, I2, r, q⟩ => ⟨I2.kIn, ?_⟩) he hpl
  have q2 : spOf ⟨X.K, hv⟩ S (vs ++ []) H2 Q E0 := q
  rw [List.append_nil] at q2
  exact run_fng h4 hr hgd h3 I2 r q2
theorem dex_callV {tb : List (Str × SpecX)} (A : ∀ q ∈ tb, FnXA hv X.prog X.w X.K X.mg X.base k q.1 q.2) (hr : Room k X.A) (hgd : X.A.guards = some []) (tk : Takes X W) (hx : PE X (.Name a p) (tVar i)) (ha : DA hv X (e :: es) fr)
    (he : starEach (e :: es) X.env = (false, eval e X.env) :: starEach es X.env := by rfl) (hpl : (backTo pos (starEach es X.env)).any (·.1) = false := by rfl) : DEX hv X W (.Call (.Name a p) (e :: es) [] pos) (xCallV tb i fr) := by
  refine ⟨fun pins s σ H Q I h => ?_⟩
  obtain ⟨γ, hd, P, X0, St, ⟨x, S, hm, h0, q⟩, kk⟩ := h
  obtain ⟨v, hv0, rv⟩ := St.pl i _ h0
  obtain rfl : v = V.ref (He.ga X.K x) := rv
  obtain ⟨hmg, ps, f, fd, h1, h2, h3, h4⟩ := A _ hm
  have h1 : X.mg x = some (.ref f) := h1
  rw [hmg] at h1
  cases h1
  refine wpAny_Call_Name_kw (thn (hx.run pins s σ H (fun v H1 => v = .ref (He.ga X.K x) ∧ H1 = H) I ⟨_, hv0, rfl, rfl⟩) fun u s1 ⟨v, H1, I1, r1, q1⟩ => ?_)
  obtain ⟨rfl, rfl⟩ := q1
  cases r1
  have rd := t_callX (W := W) (S := S) (fr := fr) (hv := hv) (Q := Q) (σ := σ) (H := H1) (K := X.K) ⟨γ, hd, P, X0, St, q, kk⟩
  exact PySem.W.callWith_K (h₀ := X.base) I.ok.mod.kin h2 (thn (ha.run pos pins s1 σ H1 _ I1 rd) fun us s2 ⟨vs, H2, I2, r, q⟩ => ⟨I2.kIn, run_fngx h4 hr hgd h3 tk I2 r q⟩) he hpl
end
/-- for v in (f, g, ..): body -/
def forFn (i : Nat) (fg : List Nat) (m : FS) : List Str → Gam → DK → Prop
  | [], γ, K => K.nx γ
  | x :: r, γ, K => m (γ.set i (.pl (.fn x))) { nx := fun γ' => forFn i fg m r (wipeG γ' fg) K, ct := fun γ' => forFn i fg m r (wipeG γ' fg) K, bk := fun γ' => K.nx (wipeG γ' fg), rt := K.rt }
def dForFn (xs : List Str) (i : Nat) (fg : List Nat) (m : FS) : FS := fun γ K => forFn i fg m xs γ K
def tFns (K : PySem.W.Frag) (xs : List Str) : TA := fun _ H Q => Q (xs.map fun x => V.ref (He.ga K x)) H
section
variable {X : Cx} {hv : Hv} {i : Nat} {xs : List Str} {x v : Str} {es : List Expr} {body : List Stmt} {m : FS} {fg : List Nat} {p pos tpos vp : Pos} {kk : Nat}
theorem pf_nil : PA X [] (tFns X.K []) := pa_nil
theorem pf_cons (h : X.mg x = some (.ref (He.ga X.K x))) (hr : PA X es (tFns X.K xs)) (hg : Gl X x := by rfl) (hdb : (x == ("__debug__" : Str)) = false := by decide) (hs : starEach (.Name x p :: es) X.env = (false, eval (.Name x p) X.env) :: starEach es X.env := by rfl) : PA X (.Name x p :: es) (tFns X.K (x :: xs)) :=
  pa_imp (pa_cons (pe_glob (v := .ref (He.ga X.K x)) hg h rfl hdb) hr hs) fun σ H Q q => q
theorem ds_forFn (hp : PassesOwn (model X.prog X.w) X.A X.env X.xe) (hc : X.calm = true) (hes : PA X es (tFns X.K xs)) (hN : X.N.Nodup) (hb : DSs hv X body m) (hsz : xs.length ≤ sizeLine) (hi : X.N[i]? = some v := by rfl) (hx : Loc X.env.scope v := by first | exact .inl rfl | exact .inr rfl) (hf : X.fn v = true ∨ X.env.scope.names.lookup v = some .local := by first | exact .inl rfl | exact .inr rfl)
    (hs : ∀ x, foldedSetIterable (.Tuple es kk tpos) X.env x = pure x := by intro _; rfl) : DS hv X (.For (.Name v vp) (.Tuple es kk tpos) body [] pos) (dForFn xs i fg m) := by
  refine ps_imp (ps_for hp hc (pi_tup (pe_tup hes)) (pg_name hN hi hx hf) hb hs) fun D σ H ⟨F, γ, hd, P, K0, S, q, ok⟩ => ?_
  refine ⟨by rw [List.length_map]; exact hsz, fun t ht => ⟨t, rfl, ⟨_, SqT.of upd_same⟩, ?_⟩⟩
  have g1 := Grow.upd (o := .tup (xs.map fun x => V.ref (He.ga X.K x))) S.s.j ht
  have S1 := S.grow g1
  have v1 : Evo ⟨X.K, hv⟩ P H P (L2.upd H t (.tup (xs.map fun x => V.ref (He.ga X.K x)))) := g1.kept S.s.j
  have ok1 := ok.later v1
  generalize hH1 : L2.upd H t (.tup (xs.map fun x => V.ref (He.ga X.K x))) = H1 at *
  have at_t : H1 t = some (.tup (xs.map fun x => V.ref (He.ga X.K x))) := by rw [← hH1]; exact upd_same
  have ln : (xs.map fun x => V.ref (He.ga X.K x)).length = xs.length := List.length_map ..
  refine ⟨fun n r σ H => r = xs.length - n ∧ n ≤ xs.length ∧ ∃ γ hd2 P2, StF ⟨X.K, hv⟩ F γ σ hd2 P2 H ∧ Evo ⟨X.K, hv⟩ P H1 P2 H ∧ forFn i fg m (xs.drop n) γ K0, ⟨xs.length, by omega, Nat.zero_le _, γ, hd, P, S1, Kept.refl, q⟩, ?_⟩
  rintro n r σ2 H2 ⟨rfl, hn, γ2, hd2, P2, S2, v2, q2⟩
  have sq : SqT X.K H2 t (xs.map fun x => V.ref (He.ga X.K x)) := SqT.of (v2.tup t _ at_t)
  by_cases hlt : n < xs.length
  · refine .inr ⟨walk_tup.goes n H2 (by rw [ln]; exact hlt) sq, fun σ3 H3 => ∃ γ hd3 P3, StF ⟨X.K, hv⟩ F γ σ3 hd3 P3 H3 ∧ Evo ⟨X.K, hv⟩ P H1 P3 H3 ∧ forFn i fg m (xs.drop (n + 1)) γ K0, fun σ3 H3 h3 => ⟨xs.length - (n + 1), by omega, rfl, hlt, h3⟩, fun y H3 hy => ?_⟩
    obtain ⟨rfl, ey⟩ := (walk_tup (a := t) (K := X.K)).yields n H2 y H3 (by rw [ln]; exact hlt) sq hy
    have hdr : xs.drop n = xs[n] :: xs.drop (n + 1) := List.drop_eq_getElem_cons hlt
    rw [hdr] at q2
    have ey2 : y = V.ref (He.ga X.K xs[n]) := by
      rw [List.getElem?_map, List.getElem?_eq_getElem hlt] at ey
      exact (Option.some.inj ey).symm
    have S3 := S2.setPl i (v := y) (r := .fn xs[n]) ey2
    exact ⟨F, _, hd2, P2, _, S3, q2, ⟨fun γ' q' σ' hd' P' H' S' v => ⟨_, hd', P', S'.weak fg, v2.trans v, q'⟩,
      fun γ' q' σ' hd' P' H' S' v => ok1.nx _ q' σ' hd' P' H' (S'.weak fg) (v2.trans v), fun γ' q' σ' hd' P' H' S' v => ⟨_, hd', P', S'.weak fg, v2.trans v, q'⟩, ok1.rt⟩⟩
  · have e : n = xs.length := by omega
    subst e
    rw [List.drop_eq_nil_of_le (Nat.le_refl _)] at q2
    refine .inl ⟨?_, ok1.nx γ2 q2 σ2 hd2 P2 H2 S2 v2⟩
    have st := (walk_tup (K := X.K)).stops H2 sq
    rw [ln] at st
    exact st
end
end DL

namespace DL
open PySem PySem.Spec PyProof.Rows L2 PySem.W

/-! ### the top's facts of errors and lambdas -/
def qLam (x : Str) : Str := (x ++ ".<locals>.") ++ "<lambda>"
def tabsT (ds : List Str) (K : PySem.W.Frag) : List (Addr × Str) := ds.map fun x => ((He.cT K (x, none)).2, qLam x)
structure TabF (ds : List Str) (hv : Hv) (K : PySem.W.Frag) (base : Heap) (mg : Str → Option Value) : Prop where
  tb : ∀ x ∈ ds, LamX.TabB base mg (He.cT K (x, none)).1 (He.cT K (x, none)).2
  mem : ∀ x ∈ ds, ((He.cT K (x, none)).2, qLam x) ∈ hv.T
  one : ∀ x ∈ ds, ∀ q ∈ hv.T, q.1 = (He.cT K (x, none)).2 → q.2 = qLam x
def tabB (ds : List Str) (K : PySem.W.Frag) : Bool := decide ((ds.map fun x => (He.cT K (x, none)).2).Nodup)
theorem tabF_of {ds : List Str} {hv : Hv} {K : PySem.W.Frag} {base : Heap} {mg : Str → Option Value} (e : hv.T = tabsT ds K) (c : tabB ds K = true) (tb : ∀ q ∈ ds.map (fun x => He.cT K (x, none)), LamX.TabB base mg q.1 q.2) : TabF ds hv K base mg := by
  refine ⟨fun x hx => tb _ (List.mem_map.mpr ⟨x, hx, rfl⟩), fun x hx => by rw [e]; exact List.mem_map.mpr ⟨x, hx, rfl⟩, fun x hx q hq e1 => ?_⟩
  rw [e] at hq
  obtain ⟨y, hy, rfl⟩ := List.mem_map.mp hq
  have nd := of_decide_eq_true (show decide _ = true from c)
  have key : ∀ l : List Str, (l.map fun x => (He.cT K (x, none)).2).Nodup → x ∈ l → y ∈ l → (He.cT K (y, none)).2 = (He.cT K (x, none)).2 → y = x := by
    intro l
    induction l with
    | nil => intro _ h; cases h
    | cons z l ih =>
      intro n hx hy e
      rw [List.map_cons, List.nodup_cons] at n
      rcases List.mem_cons.mp hx with ex | hx
      · rcases List.mem_cons.mp hy with ey | hy
        · rw [ex, ey]
        · exact (n.1 (List.mem_map.mpr ⟨y, hy, by rw [e, ex]⟩)).elim
      · rcases List.mem_cons.mp hy with ey | hy
        · exact (n.1 (List.mem_map.mpr ⟨x, hx, by rw [← e, ey]⟩)).elim
        · exact ih n.2 hx hy e
  have := key ds nd hx hy e1
  subst this
  rfl
/-- a def that holds lambdas: its code object is known -/
theorem fn_okC {hv : Hv} {P : Program} {w : World} {K : PySem.W.Frag} {mg : Str → Option Value} {base : Heap} {k : Nat} {x : Str} {st : Stmt} {N ps : List Str} {sp : Spec} {m : FS} (D : Defd K mg x st) (dg : mg x = some (.ref (He.ga K x))) (S : FnScope N ps (defScope st)) (len : ∀ rs Q0, sp rs Q0 → rs.length = ps.length)
    (hb : ∀ (kV doc pm : Value) (an : Option Addr) (cdv ct : Value) (us : List Value), us.length = ps.length → bindArgs (PySem.W.fnOf x x (defArgs st) (defBody st) (defScope st) .none kV doc pm an cdv ct) ⟨us, []⟩ = pure (ps.zip us))
    (body : ∀ (f : Addr) (cdv : Value) (A : Around) (outer : List Env) (s : Shared) (H : Hp) (E : XK), cdv = .ref (He.cT K (x, none)).1 → Room k (A.deeper (envOfC x (defScope st) s.heap.objs.size f cdv)) → (A.deeper (envOfC x (defScope st) s.heap.objs.size f cdv)).guards = some [] →
      DSs hv (cxOf CX0 P w K mg base N x (defScope st) f cdv A outer s H E).nox (defBody st) m)
    (meets : Meets N.length m sp) : Fn hv P w K mg base (k + 1) x ps sp := by
  obtain ⟨f, fd, hm, F⟩ := D
  have ef : f = He.ga K x := by
    rw [dg] at hm
    cases hm
    rfl
  refine ⟨f, fd, hm, F.kp, F.bindsN hb, ?_⟩
  obtain ⟨oc, od, dV, kV, doc, pm, an, cdv, ct, osl, rfl, lk, hcd, _, _⟩ := F.ex
  have ec : cdv = .ref (He.cT K (x, none)).1 := by
    obtain ⟨c, hc⟩ := He.codeIn_ref hcd
    rw [ef] at lk
    rw [hc, show (He.cT K (x, none)).1 = c from He.codeOf_eq (p := (x, none)) lk hc]
  refine fng_of (N := N) lk hcd S ?_ fun A outer s H vs Q E hr hg h => ⟨_, body f cdv A outer s H E ec hr hg, ?_⟩
  · rintro vs H Q E ⟨hd, Pd, rs, Q0, j, r, q, _⟩
    rw [r.length, len _ _ q]
  · obtain ⟨hd, Pp, rs, Q0, j, r, q, kk⟩ := h
    refine ⟨⟨hd, Pp, H⟩, gam0 N.length rs, hd, Pp, kTo Q0, ⟨sta_start j r, j.refl, j, fun i s p e o _ => ?_⟩, meets rs Q0 q, ⟨fun γ' q' σ' hd' P' H' S' _ => kk _ q' _ hd' P' H' S'.g Rep.non, fun γ' z => z.elim, fun γ' z => z.elim, fun t qt v hd' P' H' g1 r1 => ?_⟩⟩
    · unfold gam0 at e
      have hm := List.mem_of_getElem? e
      rw [List.mem_append] at hm
      rcases hm with hm | hm
      · obtain ⟨r0, _, z⟩ := List.mem_map.mp hm
        rw [← z] at o; cases o
      · rw [List.eq_of_mem_replicate hm] at o; cases o
    · obtain ⟨r0, e0, q0⟩ := of_onS qt
      obtain ⟨P2, m2, r2⟩ := Res.toRV g1.j r1 e0
      exact kk r0 q0 v hd' P2 H' (g1.more m2) r2
theorem TabF.at_ {ds : List Str} {hv : Hv} {P : Program} {w : World} {K : PySem.W.Frag} {mg : Str → Option Value} {base : Heap} {CX : CXT} {N : List Str} {x : Str} {sc : Scope} {f : Addr} {cdv : Value} {A : Around} {outer : List Env} {s : Shared} {H : Hp} {E : XK} {j : Nat} (T : TabF ds hv K base mg) (hj : ds[j]? = some x) (ec : cdv = .ref (He.cT K (x, none)).1) :
    LamAt (cxOf CX P w K mg base N x sc f cdv A outer s H E).nox hv.T := by
  have hx := List.mem_of_getElem? hj
  exact ⟨_, _, T.tb x hx, ec, T.mem x hx, T.one x hx⟩
def exB1 (al : List Str) (K : PySem.W.Frag) (x : Str) : Bool :=
  let C : Value := .ref (He.ga K x)
  decide (x ∈ al) && (PySem.W.excIn K (He.ga K x) He.veBase "ValueError.__new__" && (PySem.W.keepIn K C && (decide (PySem.W.subIn K C (.type "BaseException") = some true) && (decide (PySem.W.typeIn K C = some (.type "type")) &&
  (He.eqO (PySem.W.findIn K C "__getattribute__") (some (some (.builtin "BaseException.__getattribute__"))) && (He.eqO (PySem.W.findIn K C "__getattr__") (some none) && (PySem.W.hasDictIn K (He.ga K x) && (He.eqO (PySem.W.findIn K C "__class__") (some (some (.builtin "object.__class__"))) &&
  (decide (PySem.W.mroIn K (He.ga K x) (.type "object") = some true) && ((al.all fun y => decide (PySem.W.kitOne K C (.ref (He.ga K y)) = some (decide (x = y)))) && (decide (PySem.W.kitOne K C (.type "ValueError") = some true) && decide (PySem.W.exmOne K C (.ref (He.ga K "FireError")) = some true))))))))))))
def exB (cl al : List Str) (K : PySem.W.Frag) : Bool :=
  (al.all fun x => He.eqO (PySem.W.nsIn K mainGlobals x) (some (some (.ref (He.ga K x))))) && (  He.eqO (PySem.W.nsIn K mainGlobals "FireError") (some (some (.ref (He.ga K "FireError")))) && (He.eqO (PySem.W.specialIn K (.builtin "object.__class__") "__get__") (some (some (.builtin "getset_descriptor.__get__"))) && (decide (PySem.W.takesIn K (.builtin "object.__class__") = some true) && cl.all (exB1 al K))))
theorem exF_of {cl al : List Str} {K : PySem.W.Frag} {h : Heap} {mg : Str → Option Value} (X : K.In h) (G : h.Ns mainGlobals mg) (c : exB cl al K = true) : ExF cl al K mg := by
  obtain ⟨c0, c⟩ := He.ba c
  obtain ⟨c1, c⟩ := He.ba c
  obtain ⟨c2, c⟩ := He.ba c
  obtain ⟨c3, c⟩ := He.ba c
  have all : ∀ x ∈ cl, exB1 al K x = true := fun x hx => List.all_eq_true.mp c x hx
  refine ⟨fun x hx => ?_, fun x hx => PySem.W.mg_of X G (He.eqO_ok (List.all_eq_true.mp c0 x hx)), fun x hx => ?_, fun x hx => ?_, fun x hx y hy => ?_, fun x hx => ?_, _, PySem.W.mg_of X G (He.eqO_ok c1), fun x hx => ?_⟩
  all_goals
    have a := all x hx
    unfold exB1 at a
    obtain ⟨a1, a⟩ := He.ba a
    obtain ⟨a2, a⟩ := He.ba a
    obtain ⟨a3, a⟩ := He.ba a
    obtain ⟨a4, a⟩ := He.ba a
    obtain ⟨a5, a⟩ := He.ba a
    obtain ⟨a6, a⟩ := He.ba a
    obtain ⟨a7, a⟩ := He.ba a
    obtain ⟨a8, a⟩ := He.ba a
    obtain ⟨a9, a⟩ := He.ba a
    obtain ⟨a10, a⟩ := He.ba a
    obtain ⟨a11, a⟩ := He.ba a
    obtain ⟨a12, a13⟩ := He.ba a
  · exact of_decide_eq_true a1
  · exact ⟨a2, a3, of_decide_eq_true a4, of_decide_eq_true a5⟩
  · exact ⟨He.eqO_ok a6, He.eqO_ok a7, of_decide_eq_true a4, a8, He.eqO_ok a9, He.eqO_ok c2, of_decide_eq_true c3, of_decide_eq_true a10⟩
  · exact of_decide_eq_true (List.all_eq_true.mp a11 y hy)
  · exact of_decide_eq_true a12
  · exact of_decide_eq_true a13
/-- all that a hook of such a law tells besides -/
def restB (gns cl al ds : List Str) (K : PySem.W.Frag) : Bool := nonB gns K && (exB cl al K && tabB ds K)
/-- the tables stand empty at the law's start -/
theorem tabs_start {ds : List Str} {K : PySem.W.Frag} {H : Hp} (h : ∀ q ∈ ds.map (fun x => He.cT K (x, none)), H q.2 = some (.tbl #[])) : LamX.Tabs (tabsT ds K) H := by
  intro q hq
  obtain ⟨x, hx, rfl⟩ := List.mem_map.mp hq
  exact LamX.TabS.nil (h _ (List.mem_map.mpr ⟨x, hx, rfl⟩))
theorem all_fa {α : Type} {p : α → Prop} {a : α} {l : List α} (h : p a) (t : ∀ q ∈ l, p q) : ∀ q ∈ a :: l, p q := fun q hq => by
  rcases List.mem_cons.mp hq with e | hq
  · rw [e]; exact h
  · exact t q hq
/-! ### simple rules for proofs -/
@[simp] theorem ev_xNo {γ : Gam} {X0 : Exn → Prop} : xNo γ X0 = False := rfl
@[simp] theorem ev_xRaise {x : Exn} {γ : Gam} {X0 : Exn → Prop} : xRaise x γ X0 = X0 x := rfl
@[simp] theorem ev_xIf {c : FT} {a b : FX} {γ : Gam} {X0 : Exn → Prop} : xIf c a b γ X0 = c γ fun t => if t = true then a γ X0 else b γ X0 := rfl
@[simp] theorem ev_xOr {a b : FX} {γ : Gam} {X0 : Exn → Prop} : xOr a b γ X0 = (a γ X0 ∨ b γ X0) := rfl
@[simp] theorem ev_xThen {f : FS} {g : FX} {γ : Gam} {X0 : Exn → Prop} : xThen f g γ X0 = f γ { nx := fun γ' => g γ' X0, rt := fun _ => False } := rfl

/-! ### promises of errors by the number of arguments -/
abbrev QX := Exn → Prop
def sxp1 (f : RV → QX → Prop) : SpecX := fun rs X0 => match rs with | [a] => f a X0 | _ => False
theorem sxp1_len {f} : ∀ rs X0, sxp1 f rs X0 → rs.length = 1 := fun rs X0 h => by
  unfold sxp1 at h
  split at h
  · rfl
  · exact h.elim
theorem meetsx1 {k : Nat} {m : FX} {f} (h : ∀ a X0, f a X0 → m (gam0 k [a]) X0) : MeetsX k m (sxp1 f) := fun rs X0 q => by
  unfold sxp1 at q
  split at q
  · exact h _ X0 q
  · exact q.elim
@[simp] theorem ev_sxp1 {f} {a : RV} {X0 : QX} : sxp1 f [a] X0 = f a X0 := rfl
def sxp2 (f : RV → RV → QX → Prop) : SpecX := fun rs X0 => match rs with | [a, b] => f a b X0 | _ => False
theorem sxp2_len {f} : ∀ rs X0, sxp2 f rs X0 → rs.length = 2 := fun rs X0 h => by
  unfold sxp2 at h
  split at h
  · rfl
  · exact h.elim
theorem meetsx2 {k : Nat} {m : FX} {f} (h : ∀ a b X0, f a b X0 → m (gam0 k [a, b]) X0) : MeetsX k m (sxp2 f) := fun rs X0 q => by
  unfold sxp2 at q
  split at q
  · exact h _ _ X0 q
  · exact q.elim
@[simp] theorem ev_sxp2 {f} {a b : RV} {X0 : QX} : sxp2 f [a, b] X0 = f a b X0 := rfl
def sxp3 (f : RV → RV → RV → QX → Prop) : SpecX := fun rs X0 => match rs with | [a, b, c] => f a b c X0 | _ => False
theorem sxp3_len {f} : ∀ rs X0, sxp3 f rs X0 → rs.length = 3 := fun rs X0 h => by
  unfold sxp3 at h
  split at h
  · rfl
  · exact h.elim
theorem meetsx3 {k : Nat} {m : FX} {f} (h : ∀ a b c X0, f a b c X0 → m (gam0 k [a, b, c]) X0) : MeetsX k m (sxp3 f) := fun rs X0 q => by
  unfold sxp3 at q
  split at q
  · exact h _ _ _ X0 q
  · exact q.elim
@[simp] theorem ev_sxp3 {f} {a b c : RV} {X0 : QX} : sxp3 f [a, b, c] X0 = f a b c X0 := rfl
def sxp4 (f : RV → RV → RV → RV → QX → Prop) : SpecX := fun rs X0 => match rs with | [a, b, c, d] => f a b c d X0 | _ => False
theorem sxp4_len {f} : ∀ rs X0, sxp4 f rs X0 → rs.length = 4 := fun rs X0 h => by
  unfold sxp4 at h
  split at h
  · rfl
  · exact h.elim
theorem meetsx4 {k : Nat} {m : FX} {f} (h : ∀ a b c d X0, f a b c d X0 → m (gam0 k [a, b, c, d]) X0) : MeetsX k m (sxp4 f) := fun rs X0 q => by
  unfold sxp4 at q
  split at q
  · exact h _ _ _ _ X0 q
  · exact q.elim
@[simp] theorem ev_sxp4 {f} {a b c d : RV} {X0 : QX} : sxp4 f [a, b, c, d] X0 = f a b c d X0 := rfl
def sxp5 (f : RV → RV → RV → RV → RV → QX → Prop) : SpecX := fun rs X0 => match rs with | [a, b, c, d, e] => f a b c d e X0 | _ => False
theorem sxp5_len {f} : ∀ rs X0, sxp5 f rs X0 → rs.length = 5 := fun rs X0 h => by
  unfold sxp5 at h
  split at h
  · rfl
  · exact h.elim
theorem meetsx5 {k : Nat} {m : FX} {f} (h : ∀ a b c d e X0, f a b c d e X0 → m (gam0 k [a, b, c, d, e]) X0) : MeetsX k m (sxp5 f) := fun rs X0 q => by
  unfold sxp5 at q
  split at q
  · exact h _ _ _ _ _ X0 q
  · exact q.elim
@[simp] theorem ev_sxp5 {f} {a b c d e : RV} {X0 : QX} : sxp5 f [a, b, c, d, e] X0 = f a b c d e X0 := rfl
end DL

namespace DL
open PySem PySem.Spec PyProof.Rows L2 PySem.W

/-! ### evaluation of what raises -/
section
variable {γ : Gam} {X0 : Exn → Prop} {Q : TV → Prop} {K : DK} {fr : FA} {m : FE} {xm : FX} {i : Nat}
def xcR (sp : SpecX) (o : Option (List RV)) (X0 : Exn → Prop) : Prop := match o with
  | some rs => sp rs X0
  | none => False
@[simp] theorem xcR_some {sp : SpecX} {rs : List RV} : xcR sp (some rs) X0 = sp rs X0 := rfl
@[simp] theorem ev_xCall {sp : SpecX} : xCall sp fr γ X0 = fr γ fun ts => xcR sp (rvs ts) X0 := by
  unfold xCall xcR
  rfl
theorem xCallV_of {tb : List (Str × SpecX)} {x : Str} {S : SpecX} (h : γ[i]? = some (.pl (.fn x))) (hm : (x, S) ∈ tb) (q : fr γ fun ts => xcR S (rvs ts) X0) : xCallV tb i fr γ X0 := ⟨x, S, hm, h, by rw [ev_xCall]; exact q⟩
theorem dCallV_of {tb : List (Str × Spec)} {x : Str} {S : Spec} (h : γ[i]? = some (.pl (.fn x))) (hm : (x, S) ∈ tb) (q : dCall S fr γ Q) : dCallV tb i fr γ Q := ⟨x, S, hm, h, q⟩
@[simp] theorem ev_word {sp : SpecW} : dWord sp m xm γ Q = (m γ (fun t => sp (.inl t) fun r => Q (.pl r)) ∨ xm γ fun x => sp (.inr x) fun r => Q (.pl r)) := rfl
@[simp] theorem ev_fname {x : Str} : dFn x γ Q = Q (.pl (.fn x)) := rfl
@[simp] theorem ev_tryW {cl : List Str} {mS : Exn → Addr → FS} {O : Outc → Prop} {f : Addr} : dTryW cl i mS O f γ K = (γ[0]? = some (.pl (.raw (.ref f))) ∧ (∀ t, O (.inl t) → K.nx γ) ∧ ∀ x, O (.inr x) → x ∈ cl ∧ ∀ a, mS x a (γ.set i (.pl (.raw (.ref a)))) { nx := fun γ' => K.nx (γ'.set i .non), rt := K.rt }) := rfl
end
/-- a loop over defs, by an invariant -/
theorem forFn_ok {i : Nat} {fg : List Nat} {m : FS} {K : DK} (I : List Str → Gam → Prop) (hstep : ∀ x r γ, I (x :: r) γ → ∀ K' : DK, (∀ γ', I r (wipeG γ' fg) → K'.nx γ') → m (γ.set i (.pl (.fn x))) K') (hend : ∀ γ, I [] γ → K.nx γ) :
    ∀ (xs : List Str) (γ : Gam), I xs γ → forFn i fg m xs γ K
  | [], γ, h => hend γ h
  | x :: r, γ, h => hstep x r γ h _ fun γ' h' => forFn_ok I hstep hend r (wipeG γ' fg) h'
theorem dForFn_ok {i : Nat} {fg : List Nat} {m : FS} {K : DK} {xs : List Str} {γ : Gam} (I : List Str → Gam → Prop) (h0 : I xs γ) (hstep : ∀ x r γ, I (x :: r) γ → ∀ K' : DK, (∀ γ', I r (wipeG γ' fg) → K'.nx γ') → m (γ.set i (.pl (.fn x))) K') (hend : ∀ γ, I [] γ → K.nx γ) :
    dForFn xs i fg m γ K := forFn_ok I hstep hend xs γ h0

/-! ### the size of a thing -/
mutual
def cnt : D → Nat
  | .tuple xs => cnts xs + 1
  | .list xs => cnts xs + 1
  | _ => 1
def cnts : List D → Nat
  | [] => 0
  | x :: xs => cnt x + cnts xs
end
theorem cnt_pos : ∀ d : D, 1 ≤ cnt d
  | .tuple xs => by rw [cnt]; omega
  | .list xs => by rw [cnt]; omega
  | .none => by rw [cnt]; all_goals simp
  | .bool _ => by rw [cnt]; all_goals simp
  | .int _ => by rw [cnt]; all_goals simp
  | .str _ => by rw [cnt]; all_goals simp
  | .dict _ => by rw [cnt]; all_goals simp
theorem cnts_len : ∀ ds : List D, ds.length ≤ cnts ds
  | [] => by simp
  | d :: ds => by
    have := cnts_len ds
    have := cnt_pos d
    rw [cnts, List.length_cons]
    omega
theorem cnts_mem : ∀ {ds : List D} {d : D}, d ∈ ds → cnt d ≤ cnts ds
  | d :: ds, x, h => by
    rw [cnts]
    rcases List.mem_cons.mp h with rfl | h
    · omega
    · have := cnts_mem h
      omega
theorem cnt_t {ds : List D} {n : Nat} (h : cnt (.tuple ds) ≤ n) : ds.length ≤ n ∧ ∀ d ∈ ds, cnt d ≤ n := by
  rw [cnt] at h
  have := cnts_len ds
  exact ⟨by omega, fun d hd => by have := cnts_mem hd; omega⟩
theorem cnt_l {ds : List D} {n : Nat} (h : cnt (.list ds) ≤ n) : ds.length ≤ n ∧ ∀ d ∈ ds, cnt d ≤ n := by
  rw [cnt] at h
  have := cnts_len ds
  exact ⟨by omega, fun d hd => by have := cnts_mem hd; omega⟩
/-- what is no such thing, of a modest size -/
def badD (ok : D → Bool) (a : RV) (q : Prop) : Prop := ∃ d, a = .d d ∧ ok d = false ∧ cnt d ≤ 1000 ∧ q
@[simp] theorem badD_ev {ok : D → Bool} {d : D} {q : Prop} : badD ok (.d d) q = (ok d = false ∧ cnt d ≤ 1000 ∧ q) := propext ⟨fun ⟨e, h1, h2⟩ => by
  injection h1 with h1
  rw [h1]
  exact h2, fun h => ⟨d, rfl, h⟩⟩
/-- any thing of a modest size -/
def anyD (a : RV) (q : D → Prop) : Prop := ∃ d, a = .d d ∧ cnt d ≤ 1000 ∧ q d
@[simp] theorem anyD_ev {d : D} {q : D → Prop} : anyD (.d d) q = (cnt d ≤ 1000 ∧ q d) := propext ⟨fun ⟨e, h1, h2⟩ => by
  injection h1 with h1
  rw [h1]
  exact h2, fun h => ⟨d, rfl, h⟩⟩
end DL

namespace DL
open PySem PySem.Spec PyProof.Rows L2 PySem.W
/-! ### flags -/
abbrev bD (b : Bool) : D := .bool b
instance : Ty bD 0 where
  inj := fun h => by injection h
  eqv := fun x y => by cases x <;> cases y <;> decide
  plain := fun _ => rfl
  depth := fun _ => Nat.le_refl _
theorem flags_count {x : TV} {Q : TV → Prop} (bs : List Bool) (hx : x.data = some (.list (bs.map bD))) (q : Q (.pl (.d (.int (bs.count true : Nat))))) : gCountL x (.pl (.d (.bool true))) Q :=
  gCountL_ty (e := bD) (by decide) hx rfl q
theorem flags_index {x : TV} {Q : TV → Prop} (bs : List Bool) (hx : x.data = some (.list (bs.map bD))) (hm : true ∈ bs) (hl : bs.length ≤ 100000) (q : Q (.pl (.d (.int (ixO bs true : Nat))))) : gIndex x (.pl (.d (.bool true))) Q :=
  gIndex_ty (e := bD) (by decide) hx rfl hm hl q
/-! ### lists put together, tuples repeated: for simp -/
section
variable {s t : List D} {i : Int}
@[simp] theorem addS_lv_lv (h : s.length + t.length ≤ 100000) : addT (.lv s) (.lv t) = some (.fr (s ++ t)) := add_ll rfl rfl h
@[simp] theorem addS_lv_fr (h : s.length + t.length ≤ 100000) : addT (.lv s) (.fr t) = some (.fr (s ++ t)) := add_ll rfl rfl h
@[simp] theorem addS_lv_pl (h : s.length + t.length ≤ 100000) : addT (.lv s) (.pl (.d (.list t))) = some (.fr (s ++ t)) := add_ll rfl rfl h
@[simp] theorem addS_fr_lv (h : s.length + t.length ≤ 100000) : addT (.fr s) (.lv t) = some (.fr (s ++ t)) := add_ll rfl rfl h
@[simp] theorem addS_fr_fr (h : s.length + t.length ≤ 100000) : addT (.fr s) (.fr t) = some (.fr (s ++ t)) := add_ll rfl rfl h
@[simp] theorem addS_fr_pl (h : s.length + t.length ≤ 100000) : addT (.fr s) (.pl (.d (.list t))) = some (.fr (s ++ t)) := add_ll rfl rfl h
@[simp] theorem addS_pl_lv (h : s.length + t.length ≤ 100000) : addT (.pl (.d (.list s))) (.lv t) = some (.fr (s ++ t)) := add_ll rfl rfl h
@[simp] theorem addS_pl_fr (h : s.length + t.length ≤ 100000) : addT (.pl (.d (.list s))) (.fr t) = some (.fr (s ++ t)) := add_ll rfl rfl h
@[simp] theorem addS_pl_pl (h : s.length + t.length ≤ 100000) : addT (.pl (.d (.list s))) (.pl (.d (.list t))) = some (.fr (s ++ t)) := add_ll rfl rfl h
@[simp] theorem mulS_lv (h0 : 0 ≤ i) (h1 : i ≤ 1000) (h : s.length ≤ 100) : mulT (.lv s) (.pl (.d (.int i))) = some (.fr (List.replicate i.toNat s).flatten) := mul_li rfl h0 (by omega) (Nat.le_trans (Nat.mul_le_mul h (show i.toNat ≤ 1000 by omega)) (by decide))
@[simp] theorem mulS_fr (h0 : 0 ≤ i) (h1 : i ≤ 1000) (h : s.length ≤ 100) : mulT (.fr s) (.pl (.d (.int i))) = some (.fr (List.replicate i.toNat s).flatten) := mul_li rfl h0 (by omega) (Nat.le_trans (Nat.mul_le_mul h (show i.toNat ≤ 1000 by omega)) (by decide))
@[simp] theorem mulS_pl (h0 : 0 ≤ i) (h1 : i ≤ 1000) (h : s.length ≤ 100) : mulT (.pl (.d (.list s))) (.pl (.d (.int i))) = some (.fr (List.replicate i.toNat s).flatten) := mul_li rfl h0 (by omega) (Nat.le_trans (Nat.mul_le_mul h (show i.toNat ≤ 1000 by omega)) (by decide))
@[simp] theorem mulUS (h0 : -1000 ≤ i) (h1 : i ≤ 1000) (h : s.length ≤ 1000) : mulU (.pl (.d (.tuple s))) (.pl (.d (.int i))) = some (.pl (.d (.tuple (List.replicate i.toNat s).flatten))) := mulU_t h0 h1 h
end
end DL

namespace DL
open PySem PySem.Spec PyProof.Rows L2 PySem.W

/-! ### things that hold empty dicts, shown -/
mutual
def eOk : D → Bool
  | .list xs => eOks xs
  | .tuple xs => eOks xs
  | .dict kvs => kvs.isEmpty
  | _ => true
def eOks : List D → Bool
  | [] => true
  | x :: xs => eOk x && eOks xs
end
section
variable {X : Cx} {hv : Hv} {pins : List (Addr × Obj)} {σ : L2.St} {H : Hp} {s : Shared} {P : Pd}
theorem repK_dict (I : Inv X pins σ H s) {v : V} {u : Value} (r : Rep X.K P H v (.dict [])) (ra : RelV v u) : ∃ as bs, Reads s.heap u (.dict []) as ∧ ReadAtMost s.heap (PyData.depth (.dict [])) bs ∧ ReprK X.prog X.w bs s.heap (PyData.depth (.dict [])) u (PyData.shown (.dict [])) := by
  obtain ⟨a, rfl, hr, hs⟩ := reads_dict0 I r ra
  obtain ⟨bs, h1, h2⟩ := ReprK.of_reads (prog := X.prog) (w := X.w) hr (by rfl) (fun _ z => by
    rw [List.mem_singleton] at z
    rw [← z] at hs
    simp at hs) (by decide +kernel)
  exact ⟨_, bs, hr, h1, h2⟩
theorem eOk_d {kvs : List (D × D)} (h : eOk (.dict kvs) = true) : kvs = [] := by
  have h' : kvs.isEmpty = true := by simpa [eOk] using h
  exact List.isEmpty_iff.mp h'
mutual
theorem repK_E (I : Inv X pins σ H s) : ∀ {v : V} {d : D} {u : Value}, Rep X.K P H v d → eOk d = true → d.showable = true → d.shown.length ≤ sizeLine → RelV v u →
    ∃ as bs, Reads s.heap u d as ∧ ReadAtMost s.heap d.depth bs ∧ ReprK X.prog X.w bs s.heap d.depth u d.shown
  | _, _, _, .non, _, hs, hz, r => by
    cases r
    obtain ⟨bs, h1, h2⟩ := ReprK.of_reads (prog := X.prog) (w := X.w) (h₀ := s.heap) .none hs (fun z => by cases z) hz
    exact ⟨_, bs, .none, h1, h2⟩
  | _, _, _, .bl b, _, hs, hz, r => by
    cases r
    obtain ⟨bs, h1, h2⟩ := ReprK.of_reads (prog := X.prog) (w := X.w) (h₀ := s.heap) (.bool b) hs (fun z => by cases z) hz
    exact ⟨_, bs, .bool b, h1, h2⟩
  | _, _, _, .int i, _, hs, hz, r => by
    obtain ⟨t, rfl⟩ := r
    obtain ⟨bs, h1, h2⟩ := ReprK.of_reads (prog := X.prog) (w := X.w) (h₀ := s.heap) (.int i t) hs (fun z => by cases z) hz
    exact ⟨_, bs, .int i t, h1, h2⟩
  | _, _, _, .str x, _, hs, hz, r => by
    obtain ⟨t, rfl⟩ := r
    obtain ⟨bs, h1, h2⟩ := ReprK.of_reads (prog := X.prog) (w := X.w) (h₀ := s.heap) (.str x t) hs (fun z => by cases z) hz
    exact ⟨_, bs, .str x t, h1, h2⟩
  | _, _, _, .lst (ds := ds) h _ q, e, hs, hz, r => by
    cases r
    rename_i a vs hP
    obtain ⟨its, rv, ⟨o, n, ho, hc, _, hd⟩, _⟩ := I.list (SqL.of h)
    have hz2 : (listText (PyData.shownAll ds)).length ≤ sizeLine := by simpa only [PyData.shown] using hz
    obtain ⟨as, bs, h1, hb, hk⟩ := repsK_E I q (by simpa [eOk] using e) (by simpa [PyData.showable] using hs) (fun t ht => Nat.le_trans (listText_mem_le ht) hz2) rv
    have rd : Reads s.heap (.ref a) (.list ds) _ := Reads.list ho hc hd h1
    have out : a ∉ bs := not_mem_of_deeper rd (by simp only [PyData.depth]; omega) hb
    refine ⟨_, a :: bs, rd, ReadAtMost.cons rd (by simp only [PyData.depth]; omega) hb, ?_⟩
    simp only [PyData.depth, PyData.shown]
    cases its with
    | nil =>
      have h1' : ReadsAll s.heap [] ds _ := h1
      cases h1'
      simp only [PyData.shownAll, listText_nil]
      exact ReprK.listEmpty ho hc hd
    | cons x l => exact ReprK.list ho hc hd out (by simpa using hk.length_eq) (fun i y ey => hk.item i y (by simpa using ey))
  | _, _, _, .tup (ds := ds) h q, e, hs, hz, r => by
    cases r
    rename_i a vs
    obtain ⟨its, rv, ⟨o, ho, hc, n, hd⟩, _⟩ := I.tuple (SqT.of h)
    have hz2 : (tupleText (PyData.shownAll ds)).length ≤ sizeLine := by simpa only [PyData.shown] using hz
    obtain ⟨as, bs, h1, hb, hk⟩ := repsK_E I q (by simpa [eOk] using e) (by simpa [PyData.showable] using hs) (fun t ht => Nat.le_trans (tupleText_mem_le ht) hz2) rv
    have rd : Reads s.heap (.ref a) (.tuple ds) _ := Reads.tuple ho hc hd h1
    have out : a ∉ bs := not_mem_of_deeper rd (by simp only [PyData.depth]; omega) hb
    refine ⟨_, a :: bs, rd, ReadAtMost.cons rd (by simp only [PyData.depth]; omega) hb, ?_⟩
    simp only [PyData.depth, PyData.shown]
    exact ReprK.tuple ho hc hd out hk
  | _, _, _, .dK h p q, e, hs, hz, r => by
    have ez := eOk_d e
    have rr := Rep.dK h p q
    rw [ez] at rr ⊢
    exact repK_dict I rr r
  | _, _, _, .dT h p q, e, hs, hz, r => by
    have ez := eOk_d e
    have rr := Rep.dT h p q
    rw [ez] at rr ⊢
    exact repK_dict I rr r
theorem repsK_E (I : Inv X pins σ H s) : ∀ {vs : List V} {ds : List D} {us : List Value}, Reps X.K P H vs ds → eOks ds = true → PyData.showableAll ds = true → (∀ t ∈ PyData.shownAll ds, t.length ≤ sizeLine) → Vals vs us →
    ∃ as bs, ReadsAll s.heap us ds as ∧ ReadAtMost s.heap (PyData.depthAll ds) bs ∧ ReprAllK X.prog X.w bs s.heap (PyData.depthAll ds) us (PyData.shownAll ds)
  | _, _, _, .nil, _, _, _, r => by
    cases r
    exact ⟨_, [], .nil, (fun _ h => nomatch h), by simp only [PyData.shownAll]; exact .nil⟩
  | _, _, _, .cons (d := d) (ds := ds) q qs, e, hs, hz, r => by
    have e2 : eOk d = true ∧ eOks ds = true := by simpa [eOks] using e
    have s2 : d.showable = true ∧ PyData.showableAll ds = true := by simpa [PyData.showableAll] using hs
    cases r with
    | cons r1 r2 =>
      obtain ⟨a1, b1, h1, m1, k1⟩ := repK_E I q e2.1 s2.1 (hz _ (by simp only [PyData.shownAll]; exact List.mem_cons_self ..)) r1
      obtain ⟨a2, b2, h2, m2, k2⟩ := repsK_E I qs e2.2 s2.2 (fun t ht => hz t (by simp only [PyData.shownAll]; exact List.mem_cons_of_mem _ ht)) r2
      refine ⟨_, b1 ++ b2, .cons h1 h2, ?_, ?_⟩
      · intro b hm
        simp only [PyData.depthAll]
        rcases List.mem_append.mp hm with hm | hm
        · obtain ⟨d2, as2, r2, hd2⟩ := m1 b hm
          exact ⟨d2, as2, r2, Nat.le_trans hd2 (Nat.le_max_left _ _)⟩
        · obtain ⟨d2, as2, r2, hd2⟩ := m2 b hm
          exact ⟨d2, as2, r2, Nat.le_trans hd2 (Nat.le_max_right _ _)⟩
      · simp only [PyData.depthAll, PyData.shownAll]
        exact .cons ((k1.more fun b hb => List.mem_append_left _ hb).level_le (Nat.le_max_left _ _)) (k2.more_le (fun b hb => List.mem_append_right _ hb) (Nat.le_max_right _ _))
end
end
def okReprF (d : D) : Bool := eOk d && (d.showable && (d.leavesShort 13 && (decide (d.weight ≤ 2 ^ 20) && decide (d.depth ≤ deep))))
def gReprF : G1 := fun ts Q => match ts with
  | [a] => (match a.data with
    | some (.list ds) => okReprF (.list ds) = true ∧ Q (pd (.str (PyData.shown (.list ds))))
    | some (.tuple ds) => okReprF (.tuple ds) = true ∧ Q (pd (.str (PyData.shown (.tuple ds))))
    | _ => gReprE [a] Q)
  | _ => False
section
variable {X : Cx} {hv : Hv}
theorem fitsF {d : D} (h : okReprF d = true) : d.shown.length ≤ sizeLine := by
  simp only [okReprF, Bool.and_eq_true, decide_eq_true_eq] at h
  exact PyData.shown_fits (B := 13) (by decide) (by decide) h.2.2.1 h.2.2.2.1
theorem cd_reprF (hgd : X.A.guards = some []) (hu : X.A.units + 64 < cLine) : CallR X (.builtin "repr") (rDC ⟨X.K, hv⟩ gReprF) := by
  intro pins s σ H xs us Q I r ⟨hd, P, H0, ts, Q0, j, rs, q, k⟩
  unfold gReprF at q
  split at q
  · obtain ⟨v, rfl, r1⟩ := ress1 rs
    split at q
    · rename_i ds e1
      obtain ⟨ho, q⟩ := q
      have hz := fitsF ho
      simp only [okReprF, Bool.and_eq_true, decide_eq_true_eq] at ho
      have hdep : PyData.depth (.list ds) ≤ 60 := ho.2.2.2.2
      cases r with
      | cons ra rr =>
        cases rr
        have rp := r1.rep e1
        cases rp with
        | lst h hp qq =>
          cases ra
          obtain ⟨its, rv, ⟨o, n, hob, hc, _, hdt⟩, _⟩ := I.list (SqL.of h)
          have hz2 : (listText (PyData.shownAll ds)).length ≤ sizeLine := by simpa only [PyData.shown] using hz
          obtain ⟨as, bs, h1, hb, hk⟩ := repsK_E I qq (by simpa [eOk] using ho.1) (by simpa [PyData.showable] using ho.2.1) (fun t ht => Nat.le_trans (listText_mem_le ht) hz2) rv
          have rd := Reads.list hob hc hdt h1
          have out := not_mem_of_deeper rd (by simp only [PyData.depth]; omega) hb
          simp only [PyData.depth] at hdep
          refine call_repr_slot (by omega) ⟨o, hob, hc⟩ PySem.F.slot_list_repr.toG ?_
          have fin : ∀ h' u tk, (∀ b o, s.heap.get? b = some o → h'.get? b = some o) → ∃ x t, (Value.str (PyData.shown (.list ds)) u) = .str x t ∧ EP X pins σ Q (.str (PyData.shown (.list ds)) u) { s with heap := h', toks := tk } :=
            fun h' u tk hk => ⟨_, _, rfl, .str _, H, I.kept hk, ⟨_, rfl⟩, k _ q _ P H j.refl (Rep.str _)⟩
          simp only [PyData.shown] at fin
          cases its with
          | nil =>
            have h1' : ReadsAll s.heap [] ds as := h1
            cases h1'
            simp only [PyData.shownAll, listText_nil] at fin
            exact call_list_repr_empty ⟨o, hob, hc⟩ hob hdt (fin s.heap _ _ fun _ _ e => e)
          | cons x l =>
            exact call_list_reprK (A := X.A.in1) hob hc hdt out (by simpa using hk.length_eq) (fun i y ey => hk.item i y (by simpa using ey)) hgd (fun b _ => Clear.nil b) (by show X.A.units + 1 + (PyData.depthAll ds + 1) < cLine; omega) (fun _ _ z => z) fin hz2
    · rename_i ds e1
      obtain ⟨ho, q⟩ := q
      have hz := fitsF ho
      simp only [okReprF, Bool.and_eq_true, decide_eq_true_eq] at ho
      have hdep : PyData.depth (.tuple ds) ≤ 60 := ho.2.2.2.2
      cases r with
      | cons ra rr =>
        cases rr
        have rp := r1.rep e1
        cases rp with
        | tup h qq =>
          cases ra
          obtain ⟨its, rv, ⟨o, hob, hc, n, hdt⟩, _⟩ := I.tuple (SqT.of h)
          have hz2 : (tupleText (PyData.shownAll ds)).length ≤ sizeLine := by simpa only [PyData.shown] using hz
          obtain ⟨as, bs, h1, hb, hk⟩ := repsK_E I qq (by simpa [eOk] using ho.1) (by simpa [PyData.showable] using ho.2.1) (fun t ht => Nat.le_trans (tupleText_mem_le ht) hz2) rv
          have rd := Reads.tuple hob hc hdt h1
          have out := not_mem_of_deeper rd (by simp only [PyData.depth]; omega) hb
          simp only [PyData.depth] at hdep
          refine call_repr_slot (by omega) ⟨o, hob, hc⟩ PySem.F.slot_tuple_repr ?_
          have fin : ∀ h' u tk, (∀ b o, s.heap.get? b = some o → h'.get? b = some o) → ∃ x t, (Value.str (PyData.shown (.tuple ds)) u) = .str x t ∧ EP X pins σ Q (.str (PyData.shown (.tuple ds)) u) { s with heap := h', toks := tk } :=
            fun h' u tk hk => ⟨_, _, rfl, .str _, H, I.kept hk, ⟨_, rfl⟩, k _ q _ P H j.refl (Rep.str _)⟩
          simp only [PyData.shown] at fin
          exact call_tuple_reprK (A := X.A.in1) hob hc hdt out hk hgd (fun b _ => Clear.nil b) (by show X.A.units + 1 + (PyData.depthAll ds + 1) < cLine; omega) (fun _ _ z => z) fin hz2
    · exact cd_reprE hgd hu pins s σ H _ _ Q I r ⟨hd, P, H0, _, Q0, j, rs, q, k⟩
  · exact q.elim
end
section
variable {x : TV} {Q : TV → Prop} {ds : List D} {i : Int} {b : Bool}
@[simp] theorem gReprF_i : gReprF [.pl (.d (.int i))] Q = (i.natAbs < 10 ^ 12 ∧ Q (.pl (.d (.str (PyData.shown (.int i)))))) := (rfl)
@[simp] theorem gReprF_b : gReprF [.pl (.d (.bool b))] Q = Q (.pl (.d (.str (PyData.shown (.bool b))))) := (rfl)
@[simp] theorem gReprF_n : gReprF [.pl (.d .none)] Q = Q (.pl (.d (.str (PyData.shown .none)))) := (rfl)
@[simp] theorem gReprF_s {z : Str} : gReprF [.pl (.d (.str z))] Q = ((reprText z).length ≤ sizeLine ∧ Q (.pl (.d (.str (PyData.shown (.str z)))))) := (rfl)
@[simp] theorem gReprF_t : gReprF [.pl (.d (.tuple ds))] Q = (okReprF (.tuple ds) = true ∧ Q (.pl (.d (.str (PyData.shown (.tuple ds)))))) := (rfl)
@[simp] theorem gReprF_l : gReprF [.pl (.d (.list ds))] Q = (okReprF (.list ds) = true ∧ Q (.pl (.d (.str (PyData.shown (.list ds)))))) := (rfl)
@[simp] theorem gReprF_fr : gReprF [.fr ds] Q = (okReprF (.list ds) = true ∧ Q (.pl (.d (.str (PyData.shown (.list ds)))))) := (rfl)
@[simp] theorem gReprF_lv : gReprF [.lv ds] Q = (okReprF (.list ds) = true ∧ Q (.pl (.d (.str (PyData.shown (.list ds)))))) := (rfl)
@[simp] theorem gReprF_e : gReprF [.pl (.d (.dict []))] Q = Q (.pl (.d (.str (PyData.shown (.dict []))))) := (rfl)
end
/-! ### a sorted row is there -/
theorem sort_ex {α : Type} {e : α → D} {lt : α → α → Bool} [o : Od e lt] (xs : List α) : ∃ ys : List α, ys.Perm xs ∧ ys.Pairwise fun a b => lt b a = false := by
  refine ⟨xs.mergeSort fun a b => !lt b a, List.mergeSort_perm _ _, ?_⟩
  have := List.pairwise_mergeSort (le := fun a b => !lt b a) (fun a b c h1 h2 => ?_) (fun a b => ?_) xs
  · exact this.imp fun {a b} h => by simpa using h
  · simp only [Bool.not_eq_true'] at h1 h2 ⊢
    cases h3 : lt c a with
    | false => rfl
    | true =>
      rcases o.tri a b with h | h | h
      · rw [o.trans h3 h] at h2; cases h2
      · rw [← h, h3] at h2; cases h2
      · rw [h] at h1; cases h1
  · rcases o.tri a b with h | h | h
    · have : lt b a = false := by
        cases h3 : lt b a with
        | false => rfl
        | true => have := o.trans h h3; rw [o.irr] at this; cases this
      simp [this]
    · subst h; simp [o.irr]
    · have : lt a b = false := by
        cases h3 : lt a b with
        | false => rfl
        | true => have := o.trans h h3; rw [o.irr] at this; cases this
      simp [this]
def rc (d : D) : Bool := eOk d && (d.showable && (d.leavesShort 13 && (decide (d.weight ≤ 1000) && decide (d.depth ≤ 40))))
theorem okF_list : ∀ {ds : List D}, (∀ d ∈ ds, rc d = true) → ds.length ≤ 100 → okReprF (.list ds) = true := by
  intro ds h hl
  have key : ∀ l : List D, (∀ d ∈ l, rc d = true) → eOks l = true ∧ PyData.showableAll l = true ∧ PyData.leavesShortAll 13 l = true ∧ PyData.weightAll l ≤ l.length * 1001 ∧ PyData.depthAll l ≤ 40 := by
    intro l
    induction l with
    | nil => intro _; exact ⟨rfl, rfl, rfl, by simp [PyData.weightAll], by simp [PyData.depthAll]⟩
    | cons d l ih =>
      intro h
      obtain ⟨i1, i2, i3, i4, i5⟩ := ih fun x hx => h x (List.mem_cons_of_mem _ hx)
      have hd := h d List.mem_cons_self
      simp only [rc, Bool.and_eq_true, decide_eq_true_eq] at hd
      refine ⟨by simp [eOks, hd.1, i1], by simp [PyData.showableAll, hd.2.1, i2], by simp [PyData.leavesShortAll, hd.2.2.1, i3], ?_, ?_⟩
      · have := hd.2.2.2.1
        simp only [PyData.weightAll, List.length_cons]
        omega
      · have := hd.2.2.2.2
        simp only [PyData.depthAll]
        omega
  obtain ⟨i1, i2, i3, i4, i5⟩ := key ds h
  simp only [okReprF, Bool.and_eq_true, decide_eq_true_eq]
  refine ⟨by simpa [eOk] using i1, by simpa [PyData.showable] using i2, by simpa [PyData.leavesShort] using i3, ?_, ?_⟩
  · simp only [PyData.weight]
    have : ds.length * 1001 ≤ 100 * 1001 := Nat.mul_le_mul hl (Nat.le_refl _)
    omega
  · show _ ≤ 60
    simp only [PyData.depth]
    omega
end DL

namespace DL
open PySem PySem.Spec PyProof.Rows L2 PySem.W

/-! ### the hand that one statement makes -/
def tLen63 (K : PySem.W.Frag) : TE := tCB (rLenS K) (L2.tCons (tSl (rSlL K) (tVar 0) tNoPart (tPart (tC (.int 63)))) L2.tNil)
def tHandC (K : PySem.W.Frag) (x y : Int) : TS := tRet (tLst (L2.tCons (tCells K 0 1) (L2.tCons (tC (.int 0)) (L2.tCons (tC (.int 0)) (L2.tCons (tOp oA (tC (.int x)) (tOp oM (tC (.int y)) (tLen63 K))) (L2.tCons (tC (.int 0)) L2.tNil))))))
theorem pure_handC {T : List (Addr × Str)} {K : PySem.W.Frag} {N : List Str} {x y : Int} (hN : N.length = 2) (hx : 0 ≤ x ∧ x ≤ 1000000) (hy : 0 ≤ y ∧ y ≤ 1000000) (vs : List V) (H : Hp) (Q : VK) (E : XK) (h : sp_hand (hvA T) K vs H Q E) :
    tHandC K x y { nx := fun _ H' => Q .non H', rt := Q } (L2.start N vs) H := by
  obtain ⟨a, ns, rfl, hS, hl, k⟩ := h
  have es : L2.start N [V.ref a] = [some (.ref a), none] := by unfold L2.start; rw [hN]; rfl
  rw [es]
  unfold tHandC tRet tLst L2.tCons

  refine cells_ok (K := K) (σ := [some (.ref a), none]) (s0 := 0) (c0 := 1) (a := a) rfl (show 1 < 2 by decide) hS hl fun q ms H1 hq hk hq' hlen hm => ?_
  have ec : (cutV (ns.map V.int) none (some 63)).length ≤ 63 := by
    unfold cutV
    rw [List.length_take, List.length_drop, List.length_map]
    omega
  generalize hz : cutV (ns.map V.int) none (some 63) = zs at ec
  unfold tLen63 tOp tCB L2.tCons tSl tPart tNoPart tC
  refine ⟨_, rfl, ⟨63, rfl, a, _, rfl, DL.SqL.up hS hk, fun p2 hp2 => ?_⟩⟩
  rw [hz]
  have h2 : p2 ≠ q := fun z => by rw [z, hq'] at hp2; cases hp2
  refine ⟨p2, zs, rfl, .inl (SqL.of upd_same), ⟨y, _, rfl, rfl, .inl ⟨by omega, by omega⟩, ⟨x, _, rfl, rfl, ?_⟩⟩⟩
  have c0 : 0 ≤ y * (zs.length : Int) := Int.mul_nonneg hy.1 (Int.natCast_nonneg _)
  have c1 : y * (zs.length : Int) ≤ 1000000 * 63 := Int.mul_le_mul hy.2 (by omega) (Int.natCast_nonneg _) (by omega)
  refine ⟨show 5 ≤ sizeLine by decide, fun p hp => ?_⟩
  have hp1 : H1 p = none := by
    by_cases e : p = p2
    · rw [e]; exact hp2
    · rw [upd_ne e] at hp; exact hp
  have hpp : p ≠ p2 := fun z => by rw [z, upd_same] at hp; cases hp
  have hpq : p ≠ q := fun z => by rw [z, hq'] at hp1; cases hp1
  have back : ∀ b, H1 b = none → H b = none := fun b hb => by
    cases e : H b with
    | none => rfl
    | some o => rw [hk b o e] at hb; cases hb
  refine k p q [0, 0, x + y * (zs.length : Int), 0] ms _ (back p hp1) hq hpq (fun b o e => ?_) upd_same (by rw [upd_ne (Ne.symm hpq), upd_ne (Ne.symm h2)]; exact hq') ⟨0, 0, _, 0, rfl, Int.le_refl _, Int.le_refl _, ⟨by omega, by omega⟩, hm⟩
  have n1 : b ≠ p := fun z => by rw [z, back p hp1] at e; cases e
  have n2 : b ≠ p2 := fun z => by rw [z, back p2 hp2] at e; cases e
  rw [upd_ne n1, upd_ne n2]
  exact hk b o e
end DL

namespace DL
open PySem PySem.Spec PyProof.Rows L2 PySem.W
/-- a small power -/
def powT (x y : TV) : Option TV := match x.data, y.data with
  | some (.int i), some (.int j) => if 0 ≤ j ∧ j ≤ 40 ∧ i = 10 then some (iv (i ^ j.toNat)) else none
  | _, _ => none
theorem od_pow {X : Cx} {hv : Hv} : OpD hv X (binaryOp .Pow) powT := by
  intro pins s σ H x y v u Q I rx ry ⟨hd, P, H0, tx, ty, t, j, r1, r2, e, k⟩
  unfold powT at e
  split at e
  · rename_i i i' e1 e2
    have h1 := r1.int e1
    have h2 := r2.int e2
    subst h1 h2
    split at e
    · rename_i hz
      cases e
      exact op_pow pins s σ H _ _ v u Q I rx ry ⟨_, _, rfl, rfl, by obtain ⟨a, b, rfl⟩ := hz; exact ⟨a, by omega, by decide⟩, k _ P H j.refl (Rep.int _)⟩
    · cases e
  · cases e
@[simp] theorem ev_pow {j : Int} (h0 : 0 ≤ j) (h1 : j ≤ 40) : powT (.pl (.d (.int 10))) (.pl (.d (.int j))) = some (.pl (.d (.int (10 ^ j.toNat)))) := by
  show (if 0 ≤ j ∧ j ≤ 40 ∧ (10 : Int) = 10 then _ else _) = _
  rw [if_pos ⟨h0, h1, rfl⟩]
  rfl
end DL

namespace L2
open PySem PySem.Spec PyProof.Rows
/-! ### d.update(e), of dicts with ints and texts as keys -/
/-- the dict at p, as one whose keys are ints and texts -/
def asK (H : Hp) (p : Addr) (l : List (Key × V)) : Prop := H p = some (.dK l) ∨ (H p = some (.dT []) ∧ l = [])
section
variable {X : Cx} {pins : List (Addr × Obj)} {σ : St} {H : Hp} {s : Shared}
theorem asK_of {p : Addr} {l : List (Key × V)} (I : Inv X pins σ H s) (h : asK H p l) : l.length ≤ sizeLine ∧ (p == sysModules) = false ∧ ∃ vs, KV l vs ∧ s.heap.DictOf (mixKind X.prog X.w) p vs := by
  rcases h with h | ⟨h, rfl⟩
  · exact dk_of I.hok h
  · exact dk_of (DL.t2k I h).hok upd_same
theorem asK_mut {p : Addr} {l : List (Key × V)} (h : asK H p l) : Mut (H p) := by
  rcases h with h | ⟨h, -⟩ <;> rw [h] <;> exact True.intro
def rUpdK : V → List V → Hp → VK → Prop := fun x vs H Q => ∃ (a b : Addr) (kvs more : List (Key × V)), x = .ref a ∧ vs = [.ref b] ∧ a ≠ b ∧ asK H a kvs ∧ asK H b more ∧ kvs.length + more.length ≤ sizeLine ∧ Q .non (upd H a (.dK (mergeK kvs more)))
theorem mt_updK : MtM X "dict.update" rUpdK := by
  intro pins s σ H x vs v us Q I rx rv h
  obtain ⟨a, b, kvs, more, rfl, rfl, hab, hA, hB, hz, q⟩ := h
  cases rx
  obtain ⟨u, rfl, ru⟩ := rv.one
  cases ru
  obtain ⟨z1, hd1, vs1, rel1, dd1⟩ := asK_of I hA
  obtain ⟨z2, hd2, vs2, rel2, dd2⟩ := asK_of I hB
  refine call_meetsIn PySem.F.slot_dict_update dd1.typeIs PySem.F.entry_dict_update (PySem.F.args_dict_update_2 _ _) (meets_dict_update (mixKind X.prog X.w) a b hab hd2)
    ⟨vs1, vs2, dd1, dd2, by rw [← rel1.length, ← rel2.length]; exact hz, fun h' dd' _ hs => ?_⟩
  have he : ∃ q, h'.get? a = some q := let ⟨q, _, _, hq, _⟩ := dd'; ⟨q, hq⟩
  have hl := length_mergeK more kvs
  exact ⟨.non, _, d_write I (asK_mut hA) hs he (dk_new (by omega) hd1 (KV.merge rel2 rel1) dd'), rfl, q⟩
end
end L2
namespace DL
open PySem PySem.Spec PyProof.Rows L2 PySem.W
def updD (kvs es : List (D × D)) : List (D × D) := es.foldl (fun acc q => putD acc q.1 q.2) kvs
/-- x.update(e) -/
def dUpd (i : Nat) (fe : FE) : FS := fun γ K => match γ[i]? with
  | some (.od kvs) => fe γ fun t => match t with
    | .fd es => allIT kvs false = true ∧ allIT es false = true ∧ kvs.length + es.length ≤ sizeLine ∧ K.nx (γ.set i (.od (updD kvs es)))
    | _ => False
  | _ => False
theorem DcAt.asK {K : PySem.W.Frag} {P : Pd} {H : Hp} {p : Addr} {kvs : List (D × D)} (h : DcAt K P H p kvs) (ha : allIT kvs false = true) : ∃ l : List (Key × V), L2.asK H p l ∧ kvs.map (·.1) = l.map (fun q => keyD q.1) ∧ Reps K P H (l.map (·.2)) (kvs.map (·.2)) := by
  rcases h with ⟨l, h1, h2, h3⟩ | ⟨l, h1, h2, h3⟩
  · exact ⟨l, .inl h1, h2, h3⟩
  · cases l with
    | nil =>
      cases kvs with
      | nil => exact ⟨[], .inr ⟨h1, rfl⟩, rfl, .nil⟩
      | cons q kvs => cases h2
    | cons q l =>
      cases kvs with
      | nil => cases h2
      | cons q' kvs =>
        rw [List.map_cons, List.map_cons] at h2
        have h4 : q'.1 = keyTD q.1 := (List.cons.inj h2).1
        unfold allIT at ha
        rw [List.all_cons, Bool.and_eq_true] at ha
        rw [h4] at ha
        cases ha.1
section
variable {X : Cx} {hv : Hv} {pos apos cpos p0 : Pos} {fe : FE} {e : Expr} {i : Nat} {x : Str}
theorem ds_upd (hx : PE X (.Name x p0) (tVar i)) (he : DE hv X e fe) (hbase : attributeBase (.Name x p0) "update" X.env (eval (.Name x p0) X.env) = eval (.Name x p0) X.env := by rfl)
    (hfew : ((backTo cpos (starEach [e] X.env)).all (fun x => !x.1) && (backToKw cpos (keywordEach [] X.env)).all (fun x => x.1.isSome) && decide ([e].length + ([] : List Keyword).length + (if ([] : List Keyword).isEmpty then 0 else 1) < 30)) = true := by rfl)
    (hline : (apos.endLine == cpos.line) = true := by rfl) (hs : starEach [e] X.env = (false, eval e X.env) :: starEach [] X.env := by rfl) (hpl : (backTo cpos (starEach [] X.env)).any (·.1) = false := by rfl)
    (hsw : swapsWith (.Call (.Attribute (.Name x p0) "update" apos) [e] [] cpos) none pos.line X.env = pure false := by rfl) :
    DS hv X (.Expr (.Call (.Attribute (.Name x p0) "update" apos) [e] [] cpos) pos) (dUpd i fe) :=
  ps_imp (ps_expr (pe_bm PySem.F.plainAttrs_dict PySem.F.slot_dict_update PySem.F.type_dict_update mt_updK hx (da_cons he da_nil hs) hbase hfew hline hs hpl) hsw) fun En σ H ⟨F, γ, hd, P, K0, S, q, ok⟩ => by
    unfold dUpd at q
    split at q
    · rename_i kvs eg
      obtain ⟨p, h1, nh, h2, np⟩ := S.s.od i kvs eg
      have ty : tyV X.K "dict" (.ref p) H := by
        rcases h2 with ⟨l, h, _⟩ | ⟨l, h, _⟩
        · exact .inr (.inr (.inl ⟨rfl, .inl ⟨l, h⟩⟩))
        · exact .inr (.inr (.inl ⟨rfl, .inr ⟨l, h⟩⟩))
      refine ⟨_, h1, ty, γ, hd, P, oneT fun t => (match t with
          | .fd es => allIT kvs false = true ∧ allIT es false = true ∧ kvs.length + es.length ≤ sizeLine ∧ K0.nx (γ.set i (.od (updD kvs es)))
          | _ => False), S.s, q, fun ts qt ws hd1 P1 H1 g1 r1 => ?_⟩
      obtain ⟨t, rfl, qt⟩ := oneT_ok qt
      obtain ⟨w, rfl, r2⟩ := ress1 r1
      cases t with
      | fd es =>
        obtain ⟨a1, a2, hz, qk⟩ := qt
        obtain ⟨b, rfl, nb, rb, fb, npb⟩ := r2
        have S2 := S.grow g1
        obtain ⟨p', e1', nh', h2', np'⟩ := S2.s.od i kvs eg
        rw [h1] at e1'
        cases e1'
        obtain ⟨l, ka, kb, kc⟩ := h2'.asK a1
        obtain ⟨m, la, lb, lc⟩ := rb.asK a2
        have hne : p ≠ b := fun z => by
          rcases h2 with ⟨l, h, _⟩ | ⟨l, h, _⟩ <;> rw [z, fb] at h <;> cases h
        have hl1 : kvs.length = l.length := by have := congrArg List.length kb; simpa using this
        have hl2 : es.length = m.length := by have := congrArg List.length lb; simpa using this
        obtain ⟨d1, d2⟩ := dict_put keyD eqv_key lb lc kb kc
        refine ⟨p, b, l, m, rfl, rfl, hne, ka, la, by rw [← hl1, ← hl2]; exact hz, ?_⟩
        obtain ⟨ob, hob, hnt⟩ : ∃ ob, H1 p = some ob ∧ ∀ xs, ob ≠ .tup xs := by
          rcases ka with h | ⟨h, _⟩
          · exact ⟨_, h, fun xs z => by cases z⟩
          · exact ⟨_, h, fun xs z => by cases z⟩
        refine od_done S2 (ok.later (g1.kept S.s.j)) eg h1 nh' np' hob hnt (.inl ⟨mergeK l m, upd_same, d1, Reps.kept (kept_upd np' hob hnt _) d2⟩) qk
      | _ => exact False.elim qt
    · exact q.elim
end
end DL

namespace DL
open PySem PySem.Spec PyProof.Rows L2 PySem.W
/-! ### dicts that are locked -/
section
variable {X : Cx} {hv : Hv}
theorem ps_ghost {st : Stmt} {t t' : TS} (h : PS X st t) (k : ∀ pins s σ H D, Inv X pins σ H s → t' D σ H → ∃ H2, Inv X pins σ H2 s ∧ t D σ H2) : PS X st t' :=
  ⟨fun pins s σ H D I q => let ⟨H2, I2, q2⟩ := k pins s σ H D I q; h.run pins s σ H2 D I2 q2⟩
end
section
variable {c : Cfg} {F : Ent} {γ : Gam} {σ : L2.St} {hd : Hd} {P : Pd} {H : Hp} {K0 : DK}
/-- what stands at p, which nobody holds any more, is written -/
theorem StF.heap (S : StF c F γ σ hd P H) {p : Addr} {ob o' : HO} (hf : F.H p = none) (np : ¬ P p) (nh : ¬ hdA hd p) (no : ∀ (k : Nat) s, γ[k]? = some s → s.own = true → σ[k]? ≠ some (some (.ref p))) (hp : H p = some ob) (ht : ∀ xs, ob ≠ .tup xs) (hz : ∀ o u, ob ≠ .frz o u) (nc : NC ob) : StF c F γ σ hd P (L2.upd H p o') := by
  have km : Kept c.K P H P (L2.upd H p o') := kept_upd np hp ht o'
  have jm : J c hd P (L2.upd H p o') := by
    refine ⟨fun a h => ?_, ?_, S.s.j.hnp⟩
    · by_cases ha : a = p
      · rw [ha, upd_same]; exact Option.some_ne_none _
      · rw [upd_ne ha]; exact S.s.j.ptr a h
    · exact S.s.j.hand.mut o' nh hp nc
  refine ⟨⟨S.s.len, fun k r e => ?_, fun k ds e => ?_, fun k kvs e => ?_, S.s.dis, jm⟩, S.g.mut hf np nh _ hp nc, S.j0, S.fr⟩
  · obtain ⟨v, h1, h2⟩ := S.s.pl k r e
    refine ⟨v, h1, RepV.kept km (fun a o u z => ?_) h2⟩
    have ha : a ≠ p := fun w => by rw [w, hp] at z; cases z; exact hz _ _ rfl
    rw [upd_ne ha]; exact z
  · obtain ⟨q, vs, h1, n, h2, h3, h4⟩ := S.s.ol k ds e
    have hq : q ≠ p := fun z => no k _ e rfl (by rw [← z]; exact h1)
    exact ⟨q, vs, h1, n, by rw [upd_ne hq]; exact h2, Reps.kept km h3, h4⟩
  · obtain ⟨q, h1, n, h2, h4⟩ := S.s.od k kvs e
    have hq : q ≠ p := fun z => no k _ e rfl (by rw [← z]; exact h1)
    exact ⟨q, h1, n, h2.kept km (fun o z => by rw [upd_ne hq]; exact z), h4⟩
theorem Sta.noOwn (S : Sta c γ σ hd P H) {i : Nat} {s0 : Sl} {p : Addr} (hi : γ[i]? = some s0) (h0 : s0.own = true) (hs : σ[i]? = some (some (.ref p))) : ∀ (k : Nat) s, (γ.set i .non)[k]? = some s → s.own = true → σ[k]? ≠ some (some (.ref p)) := fun k s e o z => by
  by_cases hk : i = k
  · subst hk
    have hl : i < γ.length := (List.getElem?_eq_some_iff.mp hi).1
    rw [List.getElem?_set_self hl] at e
    cases e; cases o
  · rw [List.getElem?_set_ne hk] at e
    exact hk (S.dis i k s0 s p hi e h0 o hs z)
theorem StF.addP (S : StF c F γ σ hd P H) {p : Addr} (hf : F.H p = none) (nh : ¬ hdA hd p) (no : ∀ (k : Nat) s, γ[k]? = some s → s.own = true → σ[k]? ≠ some (some (.ref p))) {o : HO} (hp : H p = some o) : StF c F γ σ hd (P.add p) H :=
  S.more (H1 := fun a => if a = p then none else H a) ⟨fun _ h => .inl h, fun a h => h.elim .inl fun z => .inr (if_pos z), S.s.j.add hp nh⟩ fun a e => by
    by_cases ha : a = p
    · subst ha; exact ⟨hf, no⟩
    · rw [if_neg ha] at e
      refine ⟨S.g.free S.j0 e, fun k s ek ok z => ?_⟩
      cases s with
      | non => cases ok
      | pl r => cases ok
      | ol ds =>
        obtain ⟨q, vs, h1, _, h2, _⟩ := S.s.ol k ds ek
        rw [z] at h1; cases h1
        rw [e] at h2; cases h2
      | od kvs =>
        obtain ⟨q, h1, _, h2, _⟩ := S.s.od k kvs ek
        rw [z] at h1; cases h1
        obtain ⟨o, ho, _⟩ := h2.there
        rw [e] at ho; cases ho
theorem Sta.mark (S : Sta c γ σ hd P H) (i : Nat) {v : V} {r : RV} (e : σ[i]? = some (some v)) (h : RepV c hd P H v r) : Sta c (γ.set i (.pl r)) σ hd P H := by
  have q := S.setPl i h
  have e2 : σ.set i (some v) = σ := by
    apply List.ext_getElem?
    intro k
    by_cases hk : i = k
    · subst hk
      rw [List.getElem?_set_self (List.getElem?_eq_some_iff.mp e).1, e]
    · rw [List.getElem?_set_ne hk]
  rw [e2] at q
  exact q
theorem StF.mark (S : StF c F γ σ hd P H) (i : Nat) {v : V} {r : RV} (e : σ[i]? = some (some v)) (h : RepV c hd P H v r) : StF c F (γ.set i (.pl r)) σ hd P H :=
  ⟨S.s.mark i e h, S.g, S.j0, fun k s p ek o q => by
    by_cases hk : i = k
    · subst hk
      by_cases hl : i < γ.length
      · rw [List.getElem?_set_self hl] at ek; cases ek; cases o
      · rw [List.getElem?_eq_none (by rw [List.length_set]; omega)] at ek; cases ek
    · rw [List.getElem?_set_ne hk] at ek
      exact S.fr k s p ek o q⟩
/-- the own dict of slot i is locked from here on -/
def dLk (t : Bool) (i : Nat) (f : FS) : FS := fun γ K => onS (γ[i]?) fun s => match s with
  | .od kvs => allIT kvs t = true ∧ f (γ.set i (.pl (.lk t kvs))) K
  | .pl (.lk _ _) => f γ K
  | _ => False
end
section
variable {X : Cx} {hv : Hv} {pins : List (Addr × Obj)} {σ : L2.St} {H : Hp} {s : Shared} {P : Pd} {p : Addr} {kvs : List (D × D)}
theorem nil_of_map {α β γ : Type} {f : α → γ} {g : β → γ} {l : List β} (e : ([] : List α).map f = l.map g) : l = [] := by
  cases l with
  | nil => rfl
  | cons a l => simp at e
/-- a dict becomes one of the kind t, and is locked -/
theorem lock_dc (I : Inv X pins σ H s) (h : DcAt X.K P H p kvs) (t : Bool) (ha : allIT kvs t = true) : ∃ u, Inv X pins σ (L2.upd H p u) s ∧ (∀ xs, u ≠ .tup xs) ∧ (∀ H' P', Kept X.K P H P' H' → H' p = some u → LkAt X.K P' H' p t kvs) := by
  have bad : ∀ {k d : D} {r : List (D × D)} {b : Bool}, isTup k = !b → allIT ((k, d) :: r) b = true → False := fun e z => by
    simp [allIT, e] at z
  have lk : ∀ (u : HO) (H : Hp), Inv X pins σ H s → H p = some u → Mut (some u) → ∃ o, Inv X pins σ (L2.upd H p (.frz o u)) s := fun u H I e m => I.lock e m
  rcases h with ⟨l, h1, h2, h3⟩ | ⟨l, h1, h2, h3⟩
  · cases t with
    | false =>
      obtain ⟨o, I2⟩ := lk _ H I h1 trivial
      exact ⟨_, I2, fun xs z => (nomatch z), fun H' P' k e => ⟨o, l, e, h2, Reps.kept k h3⟩⟩
    | true =>
      cases kvs with
      | nil =>
        have := nil_of_map h2
        subst this
        obtain ⟨o, I2⟩ := lk _ _ (k2t I h1) upd_same trivial
        rw [upd_upd] at I2
        exact ⟨_, I2, fun xs z => (nomatch z), fun H' P' k e => ⟨o, [], e, rfl, .nil⟩⟩
      | cons q r =>
        cases l with
        | nil => simp at h2
        | cons a l =>
          rw [List.map_cons, List.map_cons] at h2
          injection h2 with h2 _
          exact (bad (k := q.1) (d := q.2) (by rw [h2, isTup_keyD]; rfl) ha).elim
  · cases t with
    | true =>
      obtain ⟨o, I2⟩ := lk _ H I h1 trivial
      exact ⟨_, I2, fun xs z => (nomatch z), fun H' P' k e => ⟨o, l, e, h2, Reps.kept k h3⟩⟩
    | false =>
      cases kvs with
      | nil =>
        have := nil_of_map h2
        subst this
        obtain ⟨o, I2⟩ := lk _ _ (t2k I h1) upd_same trivial
        rw [upd_upd] at I2
        exact ⟨_, I2, fun xs z => (nomatch z), fun H' P' k e => ⟨o, [], e, rfl, .nil⟩⟩
      | cons q r =>
        cases l with
        | nil => simp at h2
        | cons a l =>
          rw [List.map_cons, List.map_cons] at h2
          injection h2 with h2 _
          exact (bad (k := q.1) (d := q.2) (by rw [h2, isTup_keyTD]; rfl) ha).elim
theorem ds_lk {st : Stmt} {f : FS} {t : Bool} {i : Nat} (h : DS hv X st f) : DS hv X st (dLk t i f) :=
  ps_ghost h fun pins s σ H D I ⟨F, γ, hd, P, K0, S, q, ok⟩ => by
    obtain ⟨sl, e, q⟩ := of_onS q
    cases sl with
    | od kvs =>
      obtain ⟨ha, q⟩ := q
      obtain ⟨p, es, nh, hdc, np⟩ := S.s.od i kvs e
      obtain ⟨u, I2, ht, hl⟩ := lock_dc I hdc t ha
      have no := S.s.noOwn e rfl es
      have hf := S.fr i _ p e rfl es
      have S1 : StF ⟨X.K, hv⟩ F (γ.set i .non) σ hd P H := S.weak [i]
      obtain ⟨ob, hob, hz⟩ : ∃ ob, H p = some ob ∧ (∀ xs, ob ≠ .tup xs) ∧ (∀ o u, ob ≠ .frz o u) := by
        rcases hdc with ⟨l, h1, _⟩ | ⟨l, h1, _⟩
        · exact ⟨_, h1, fun _ z => (nomatch z), fun _ _ z => (nomatch z)⟩
        · exact ⟨_, h1, fun _ z => (nomatch z), fun _ _ z => (nomatch z)⟩
      have km : Kept X.K P H (P.add p) (L2.upd H p u) := (kept_upd (K := X.K) np hob hz.1 u).trans Kept.add
      have S2 := (S1.heap (o' := u) hf np nh no hob hz.1 hz.2 (hdc.nc hob)).addP hf nh no upd_same
      have S3 := S2.mark i es (r := .lk t kvs) ⟨p, rfl, .inr rfl, hl _ _ km upd_same⟩
      have eg : (γ.set i .non).set i (.pl (.lk t kvs)) = γ.set i (.pl (.lk t kvs)) := List.set_set ..
      rw [eg] at S3
      exact ⟨_, I2, F, _, hd, _, K0, S3, q, ok.later km⟩
    | pl r =>
      cases r with
      | lk t' kvs => exact ⟨H, I, F, γ, hd, P, K0, S, q, ok⟩
      | _ => exact q.elim
    | _ => exact q.elim
/-! walked -/
def seqLK (Q : List D → Bool → Prop) (t : TV) : Prop := match t with
  | .pl (.lk _ kvs) => Q (kvs.map (·.1)) true
  | _ => False
def dSeqL (f : FE) : FI := fun γ Q => f γ (seqLK Q)
theorem keys_get {κ : Type} {f : κ → D} {l : List (κ × V)} (e : kvs.map (·.1) = l.map (fun q => f q.1)) {i : Nat} {q : κ × V} (h : l[i]? = some q) : (kvs.map (·.1))[i]? = some (f q.1) := by
  rw [e, List.getElem?_map, h]
  rfl
def wk_lkK {c : Cfg} {hd : Hd} {o : Obj} {l : List (Key × V)} (h : H p = some (.frz o (.dK l))) (hp : P p) (n : ¬ hdA hd p) (e : kvs.map (·.1) = l.map (fun q => keyD q.1)) : Wk c (Itk p o l) (kvs.map (·.1)) true P H hd where
  Pw := fun a => a = p
  G := fun H1 => H1 p = some (.frz o (.dK l))
  Y := fun i H x H' => H' = H ∧ ∃ k v, l[i]? = some (k, v) ∧ x = kV k
  walk := by
    have el : (kvs.map (·.1)).length = l.length := by rw [e, List.length_map]
    rw [el]
    exact walk_keys
  good := fun H1 s => s p _ h (.inl rfl)
  free := fun a z => by rw [z]; exact n
  own := fun _ a z => by rw [z]; exact hp
  item := fun i H1 x H2 hd1 P1 s k j hi ⟨z, kk, v, h1, h2⟩ => by
    subst z h2
    exact ⟨_, keys_get e h1, j.refl, rep_keyD kk⟩
def wk_lkT {c : Cfg} {hd : Hd} {o : Obj} {l : List (List Key × V)} (h : H p = some (.frz o (.dT l))) (hp : P p) (n : ¬ hdA hd p) (e : kvs.map (·.1) = l.map (fun q => keyTD q.1)) : Wk c (Itkt p o l) (kvs.map (·.1)) true P H hd where
  Pw := fun a => a = p
  G := fun H1 => H1 p = some (.frz o (.dT l))
  Y := fun i H x H' => H' = H ∧ ∃ (k : List Key) (v : V) (q : Addr), l[i]? = some (k, v) ∧ x = .ref q ∧ H q = some (.tup (k.map kV))
  walk := by
    have el : (kvs.map (·.1)).length = l.length := by rw [e, List.length_map]
    rw [el]
    exact walk_keysT
  good := fun H1 s => s p _ h (.inl rfl)
  free := fun a z => by rw [z]; exact n
  own := fun _ a z => by rw [z]; exact hp
  item := fun i H1 x H2 hd1 P1 s k j hi ⟨z, kk, v, q, h1, h2, h3⟩ => by
    subst z h2
    refine ⟨_, keys_get e h1, j.refl, ?_⟩
    have := reps_keyD (K := c.K) (P := P1) (H := H2) kk
    exact .tup h3 this
theorem di_lk {tg e : Expr} {f : FE} (he : DE hv X e f) : DI hv X tg e (dSeqL f) := by
  refine ⟨fun pins s σ H R I ⟨γ, hd, P, Q0, S, q, k⟩ => ?_⟩
  refine thn (PE.run he pins s σ H (fun v H1 => ∃ t hd1 P1, Grow ⟨X.K, hv⟩ hd P H hd1 P1 H1 ∧ Res ⟨X.K, hv⟩ hd1 P1 H H1 v t ∧ seqLK Q0 t) I ⟨γ, hd, P, _, S, q, fun t qt v hd1 P1 H1 g1 r1 => ⟨t, hd1, P1, g1, r1, qt⟩⟩) fun v s1 ⟨x, H1, I1, rx, t, hd1, P1, g1, r1, qt⟩ => ?_
  cases t with
  | pl r =>
    cases r with
    | lk t kvs =>
      obtain ⟨p, rfl, hp, hl⟩ := r1
      obtain rfl : v = Value.ref p := rx
      have n : ¬ hdA hd1 p := fun m => g1.j.hnp _ m hp
      cases t with
      | false =>
        obtain ⟨o, l, h1, h2, h3⟩ := hl
        obtain ⟨hs, hgd, hx, es, ep, vs, hdt, hsz, kv, hm⟩ := I1.frzK h1
        refine iter_keys hs hgd hx hdt (pi_one (tk := s1.toks) I1 _ (turn_keys _ hdt) ⟨_, Heap.get?_push_size _ rfl, rfl, ?_⟩ (k _ _ qt hd1 P1 H1 _ g1 ⟨wk_lkK h1 hp n h2⟩))
        rw [hsz] <;> rfl
      | true =>
        obtain ⟨o, l, h1, h2, h3⟩ := hl
        obtain ⟨hs, hgd, hx, es, ep, hdt, hsz, ent⟩ := I1.frzT h1
        refine iter_keys hs hgd hx hdt (pi_one (tk := s1.toks) I1 _ (turn_keysT _ hdt) ⟨_, Heap.get?_push_size _ rfl, rfl, ?_⟩ (k _ _ qt hd1 P1 H1 _ g1 ⟨wk_lkT h1 hp n h2⟩))
        rw [hsz] <;> rfl
    | _ => exact qt.elim
  | _ => exact qt.elim
/-! read -/
theorem with_getL {t : Bool} {d : D} {v : V} {P2 : Pd} (h : LkAt X.K P H p t kvs) (rd : Rep X.K P2 H v d) (ko : keyOk d = true) (ht : isTup d = t) : ∃ o, DGet H p v o ∧ OptRep X.K P H o (findD kvs d) := by
  rcases keyOk_cases ko with ⟨k, rfl, h0⟩ | ⟨k, rfl, h0⟩
  · have ev := rep_key rd
    subst ev
    rw [h0] at ht
    subst ht
    obtain ⟨o, l, h1, h2, h3⟩ := h
    exact ⟨_, .inl ⟨l, k, .inr ⟨o, h1⟩, rfl, rfl⟩, find_rep keyD eqv_key k h2 h3⟩
  · obtain ⟨b, rfl, hb⟩ := rep_keyT rd
    rw [h0] at ht
    subst ht
    obtain ⟨o, l, h1, h2, h3⟩ := h
    exact ⟨_, .inr ⟨l, k, b, .inr ⟨o, h1⟩, rfl, hb, rfl⟩, find_rep keyTD eqv_keyT k h2 h3⟩
def idxL (x y : TV) : Option TV := match x with
  | .pl (.lk t kvs) => y.data.bind fun k => if keyOk k = true ∧ isTup k = t then (findD kvs k).map pd else none
  | _ => idxT x y
theorem ix_L (hu : X.A.units + 64 < cLine) : IxR X (rD ⟨X.K, hv⟩ idxL) := by
  intro value slice pins s σ H x y v u Q I rx ry ⟨hd, P, H0, tx, ty, t, j, r1, r2, e, k⟩ hs
  unfold idxL at e
  split at e
  · rename_i tt kvs
    obtain ⟨kd, ek, e⟩ := Option.bind_eq_some_iff.mp e
    split at e
    · rename_i ho
      obtain ⟨z, h3, rfl⟩ := Option.map_eq_some_iff.mp e
      obtain ⟨p, rfl, hp, hl⟩ := r1
      obtain ⟨o, g, r⟩ := with_getL hl (r2.rep ek) ho.1 ho.2
      rw [h3] at r
      obtain ⟨w, rfl, rw'⟩ := r.some_of
      exact ix_dict hu value slice pins s σ H _ _ v u Q I rx ry ⟨p, w, rfl, ⟨s, trivial⟩, g, k _ P H j.refl rw'⟩ hs
    · cases e
  · exact ix_any hu value slice pins s σ H x y v u Q I rx ry ⟨hd, P, H0, tx, ty, t, j, r1, r2, e, k⟩ hs
theorem de_idxL {a b : Expr} {fa fb : FE} {pos : Pos} (hu : X.A.units + 64 < cLine) (ha : DE hv X a fa) (hb : DE hv X b fb) (hs : PlainIx b := by intro _ _; rfl) : DE hv X (.Subscript a b pos) (dOp idxL fa fb) := pe_imp (pe_ix (ix_L hu) ha hb hs) t_op
def inL (neg : Bool) (x y : TV) : Option TV := match y with
  | .pl (.lk t kvs) => x.data.bind fun k => if keyOk k = true ∧ isTup k = t then some (bv (xor neg (findD kvs k).isSome)) else none
  | _ => inT neg x y
theorem od_inL (hu : X.A.units + 64 < cLine) : OpD hv X (compareOp .In) (inL false) := by
  intro pins s σ H x y v u Q I rx ry ⟨hd, P, H0, tx, ty, t, j, r1, r2, e, k⟩
  unfold inL at e
  split at e
  · rename_i tt kvs
    obtain ⟨kd, ek, e⟩ := Option.bind_eq_some_iff.mp e
    split at e
    · rename_i ho
      cases e
      obtain ⟨p, rfl, hp, hl⟩ := r2
      obtain ⟨o, g, r⟩ := with_getL hl (r1.rep ek) ho.1 ho.2
      obtain rfl : u = Value.ref p := ry
      exact d_in (by omega) I g rx fun s' I3 => ⟨.bl _, H, I3, rfl, k _ P H j.refl (by rw [Bool.false_xor, r.isSome]; exact Rep.bl _)⟩
    · cases e
  · exact od_in hu pins s σ H x y v u Q I rx ry ⟨hd, P, H0, tx, ty, t, j, r1, r2, e, k⟩
theorem od_notInL (hu : X.A.units + 64 < cLine) : OpD hv X (compareOp .NotIn) (inL true) := by
  intro pins s σ H x y v u Q I rx ry ⟨hd, P, H0, tx, ty, t, j, r1, r2, e, k⟩
  unfold inL at e
  split at e
  · rename_i tt kvs
    obtain ⟨kd, ek, e⟩ := Option.bind_eq_some_iff.mp e
    split at e
    · rename_i ho
      cases e
      obtain ⟨p, rfl, hp, hl⟩ := r2
      obtain ⟨o, g, r⟩ := with_getL hl (r1.rep ek) ho.1 ho.2
      obtain rfl : u = Value.ref p := ry
      exact d_notIn (by omega) I g rx fun s' I3 => ⟨.bl _, H, I3, rfl, k _ P H j.refl (by rw [Bool.true_xor, r.isSome]; exact Rep.bl _)⟩
    · cases e
  · exact od_notIn hu pins s σ H x y v u Q I rx ry ⟨hd, P, H0, tx, ty, t, j, r1, r2, e, k⟩
end
/-! for simp -/
def lkK (t : Bool) (i : Nat) (f : FS) (γ : Gam) (K : DK) (s : Sl) : Prop := match s with
  | .od kvs => allIT kvs t = true ∧ f (γ.set i (.pl (.lk t kvs))) K
  | .pl (.lk _ _) => f γ K
  | _ => False
section
variable {t : Bool} {i : Nat} {f : FS} {γ : Gam} {K : DK} {kvs : List (D × D)} {d : D} {y : TV} {neg : Bool}
@[simp] theorem ev_lk : dLk t i f γ K = onS (γ[i]?) (lkK t i f γ K) := (rfl)
@[simp] theorem lkK_od : lkK t i f γ K (.od kvs) = (allIT kvs t = true ∧ f (γ.set i (.pl (.lk t kvs))) K) := (rfl)
@[simp] theorem lkK_lk {t' : Bool} : lkK t i f γ K (.pl (.lk t' kvs)) = f γ K := (rfl)
@[simp] theorem ev_seqL {fe : FE} {Q : List D → Bool → Prop} : dSeqL fe γ Q = fe γ (seqLK Q) := (rfl)
@[simp] theorem seqLK_lk {Q : List D → Bool → Prop} : seqLK Q (.pl (.lk t kvs)) = Q (kvs.map (·.1)) true := (rfl)
@[simp] theorem idxL_lk : idxL (.pl (.lk t kvs)) y = y.data.bind fun k => if keyOk k = true ∧ isTup k = t then (findD kvs k).map pd else none := (rfl)
@[simp] theorem idxL_d : idxL (.pl (.d d)) y = idxT (.pl (.d d)) y := (rfl)
@[simp] theorem idxL_lv {ds : List D} : idxL (.lv ds) y = idxT (.lv ds) y := (rfl)
@[simp] theorem idxL_dv : idxL (.dv kvs) y = idxT (.dv kvs) y := (rfl)
@[simp] theorem inL_lk : inL neg y (.pl (.lk t kvs)) = y.data.bind fun k => if keyOk k = true ∧ isTup k = t then some (bv (xor neg (findD kvs k).isSome)) else none := (rfl)
@[simp] theorem inL_d : inL neg y (.pl (.d d)) = inT neg y (.pl (.d d)) := (rfl)
@[simp] theorem inL_dv : inL neg y (.dv kvs) = inT neg y (.dv kvs) := (rfl)
end
/-! ### d.update(e), for simp -/
def odK (f : List (D × D) → Prop) : Sl → Prop
  | .od kvs => f kvs
  | _ => False
@[simp] theorem odK_od {f : List (D × D) → Prop} {kvs : List (D × D)} : odK f (.od kvs) = f kvs := rfl
def fdK (f : List (D × D) → Prop) : TV → Prop
  | .fd kvs => f kvs
  | _ => False
@[simp] theorem fdK_fd {f : List (D × D) → Prop} {kvs : List (D × D)} : fdK f (.fd kvs) = f kvs := rfl
@[simp] theorem ev_upd {i : Nat} {fe : FE} {γ : Gam} {K : DK} : dUpd i fe γ K = onS (γ[i]?) (odK fun kvs => fe γ (fdK fun es => allIT kvs false = true ∧ allIT es false = true ∧ kvs.length + es.length ≤ sizeLine ∧ K.nx (γ.set i (.od (updD kvs es))))) := by
  unfold dUpd
  cases γ[i]? with
  | none => rfl
  | some s =>
    cases s with
    | od kvs =>
      show fe γ _ = fe γ _
      congr 1
    | _ => rfl
theorem updD_k : ∀ (ms ks : List Int), updD (kD dI ks) (kD dI ms) = kD dI (ms.foldl ins1 ks)
  | [], ks => rfl
  | m :: ms, ks => by
    have := kD_put (e := dI) (ks := ks) (x := m)
    show updD (putD (kD dI ks) (dI m) (.bool true)) (kD dI ms) = _
    rw [this, updD_k ms]
    rfl
theorem ins_all (ms ks : List Int) : (∀ y, y ∈ ms.foldl ins1 ks ↔ y ∈ ks ∨ y ∈ ms) ∧ (ks.Nodup → (ms.foldl ins1 ks).Nodup) := by
  induction ms generalizing ks with
  | nil => exact ⟨fun y => by simp, id⟩
  | cons m ms ih =>
    obtain ⟨h1, h2⟩ := ih (ins1 ks m)
    refine ⟨fun y => ?_, fun h => h2 (ins1_nd h)⟩
    rw [List.foldl_cons, h1, ins1_mem, List.mem_cons]
    exact or_assoc
end DL

namespace DL
open PySem PySem.Spec PyProof.Rows L2 PySem.W
/-! ### [e for v in (f, g, ..)]: v stands for defs -/
def lcFn (i : Nat) (fe : FE) (γ : Gam) : List Str → List D → (List D → Prop) → Prop
  | [], acc, k => k acc
  | x :: r, acc, k => fe (γ.set i (.pl (.fn x))) fun t => onS t.plain fun d => acc.length < sizeLine ∧ lcFn i fe γ r (acc ++ [d]) k
def dLcFn (xs : List Str) (i : Nat) (fe : FE) : FE := fun γ Q => lcFn i fe (wipeG γ [i]) xs [] fun out => Q (.fr out)
section
variable {X : Cx} {hv : Hv} {i : Nat} {xs : List Str} {v : Str} {es : List Expr} {elt : Expr} {fe : FE} {scope : Scope} {pos tpos vp : Pos} {kk : Nat}
theorem t_lcFn (hsz : xs.length ≤ sizeLine) (σ : L2.St) (H : Hp) (Q : VK) (h : tD ⟨X.K, hv⟩ (dLcFn xs i fe) σ H Q) : tLc (iTup X.K (tTup (tFns X.K xs))) (gName i) (tDT ⟨X.K, hv⟩ dYes) (tD ⟨X.K, hv⟩ fe) (([(v, i)] : List (Str × Nat)).map (·.2)) σ H Q := by
  obtain ⟨γ, hd, P, Q0, S, q, k⟩ := h
  refine ⟨by rw [List.length_map]; exact hsz, fun t ht => ⟨t, rfl, ⟨_, SqT.of upd_same⟩, fun Da hDa => ?_⟩⟩
  have g1 := Grow.upd (o := .tup (xs.map fun x => V.ref (He.ga X.K x))) S.j ht
  have S1 := S.grow g1
  generalize hH1 : L2.upd H t (.tup (xs.map fun x => V.ref (He.ga X.K x))) = H1 at *
  have at_t : H1 t = some (.tup (xs.map fun x => V.ref (He.ga X.K x))) := by rw [← hH1]; exact upd_same
  have ln : (xs.map fun x => V.ref (He.ga X.K x)).length = xs.length := List.length_map ..
  have nD := g1.j.fresh hDa
  have eo : ([(v, i)] : List (Str × Nat)).map (·.2) = [i] := rfl
  refine ⟨fun n m H => m = xs.length - n ∧ n ≤ xs.length ∧ ∃ hd2 P2 vs acc, Grow ⟨X.K, hv⟩ hd P H1 hd2 P2 H ∧ H Da = some (.lst vs) ∧ Reps X.K P2 H vs acc ∧ ¬ P2 Da ∧ ¬ hdA hd2 Da ∧
    lcFn i fe (wipeG γ [i]) (xs.drop n) acc (fun out => Q0 (.fr out)), ⟨xs.length, by omega, Nat.zero_le _, hd, P, [], [], Grow.upd g1.j hDa, upd_same, .nil, nD.1, nD.2, q⟩, ?_⟩
  rintro n m H2 ⟨rfl, hn, hd2, P2, vs, acc, g2, hl, ra, np, nh, q2⟩
  have sq : SqT X.K H2 t (xs.map fun x => V.ref (He.ga X.K x)) := SqT.of (g2.tup g1.j at_t)
  by_cases hlt : n < xs.length
  · refine .inr ⟨walk_tup.goes n H2 (by rw [ln]; exact hlt) sq, fun H3 => ∃ hd3 P3 vs acc, Grow ⟨X.K, hv⟩ hd P H1 hd3 P3 H3 ∧ H3 Da = some (.lst vs) ∧ Reps X.K P3 H3 vs acc ∧ ¬ P3 Da ∧ ¬ hdA hd3 Da ∧
      lcFn i fe (wipeG γ [i]) (xs.drop (n + 1)) acc (fun out => Q0 (.fr out)), fun H3 h3 => ⟨xs.length - (n + 1), by omega, rfl, hlt, h3⟩, fun y H3 hy => ?_⟩
    obtain ⟨rfl, ey⟩ := (walk_tup (a := t) (K := X.K)).yields n H2 y H3 (by rw [ln]; exact hlt) sq hy
    have hdr : xs.drop n = xs[n] :: xs.drop (n + 1) := List.drop_eq_getElem_cons hlt
    rw [hdr] at q2
    have q3 : fe ((wipeG γ [i]).set i (.pl (.fn xs[n]))) fun t => onS t.plain fun d => acc.length < sizeLine ∧ lcFn i fe (wipeG γ [i]) (xs.drop (n + 1)) (acc ++ [d]) (fun out => Q0 (.fr out)) := q2
    have ey2 : y = V.ref (He.ga X.K xs[n]) := by
      rw [List.getElem?_map, List.getElem?_eq_getElem hlt] at ey
      exact (Option.some.inj ey).symm
    have S3 := (((S1.grow g2).wipe [i])).setPl i (v := y) (r := .fn xs[n]) ey2
    refine ⟨?_, _, hd2, P2, _, S3, show dYes _ (fun b => b = true) from rfl, fun cb q5 hd5 P5 H5 g5 => ?_⟩
    · apply List.ext_getElem?
      intro k
      rw [wipe_get, wipe_get]
      by_cases hk : k ∈ [i]
      · rw [if_pos (show k ∈ ([(v, i)] : List (Str × Nat)).map (·.2) from hk), if_pos (show k ∈ ([(v, i)] : List (Str × Nat)).map (·.2) from hk), List.length_set, wipe_length]
      · have : i ≠ k := fun z => hk (by rw [z]; simp)
        rw [if_neg (show ¬ k ∈ ([(v, i)] : List (Str × Nat)).map (·.2) from hk), if_neg (show ¬ k ∈ ([(v, i)] : List (Str × Nat)).map (·.2) from hk), List.getElem?_set_ne this, wipe_get, if_neg (show ¬ k ∈ ([(v, i)] : List (Str × Nat)).map (·.2) from hk)]
    · subst q5
      have g25 := g2.trans g1.j g5
      have hl5 := g5.keep _ _ hl nh
      have np5 := nnp g5 hl np
      have nh5 := nhd g5 hl nh
      have k5 := g5.kept g2.j
      refine iteT ⟨_, hd5, P5, _, S3.grow g5, q3, fun t q6 y hd6 P6 H6 g6 r6 => ?_⟩
      obtain ⟨xd, ep, hz, q7⟩ := of_onS q6
      obtain ⟨P7, m7, r7⟩ := Res.plain g6.j r6 ep
      have hl6 := g6.keep _ _ hl5 nh5
      have np6 := nnp g6 hl5 np5
      have nh6 := nhd g6 hl5 nh5
      have np7 : ¬ P7 Da := fun z => (m7.new Da z).elim np6 fun z => by rw [hl5] at z; cases z
      have g7 := g6.more m7
      have ra7 := Reps.kept ((g7).kept g5.j) (Reps.kept k5 ra)
      have km : Kept X.K P7 H6 P7 (upd H6 Da (.lst (vs ++ [y]))) := Kept.mut np7 hl6 _
      exact ⟨vs, hl6, by rw [ra.length]; exact hz, hd6, P7, vs ++ [y], acc ++ [xd], (g25.trans g1.j g7).mut hDa np7 nh6 _ hl6, upd_same, Reps.app (Reps.kept km ra7) (.cons (Rep.kept km r7) .nil), np7, nh6, q7⟩
  · have e : n = xs.length := by omega
    subst e
    rw [List.drop_eq_nil_of_le (Nat.le_refl _)] at q2
    have st := (walk_tup (K := X.K)).stops H2 sq
    rw [ln] at st
    refine .inl ⟨st, ?_⟩
    exact k _ q2 _ hd2 P2 H2 (g1.trans S.j g2) ⟨Da, vs, rfl, nh, hl, ra, g1.free S.j hDa, np⟩
theorem de_lcFn (hc : X.calm = true) (hN : X.N.Nodup) (hes : PA X es (tFns X.K xs)) (ok : blkC X.N X.env.scope scope [(v, i)] = true)
    (hg : ∀ (s : Shared) (H : Hp) (C : Addr) (cl : List (Str × Addr)) (fp : List Addr), PG (X.blk s H scope (compEnvC scope cl C X.env) fp) (.Name v vp) (gName i))
    (he : ∀ (s : Shared) (H : Hp) (C : Addr) (cl : List (Str × Addr)) (fp : List Addr), DE hv (X.blk s H scope (compEnvC scope cl C X.env) fp) elt fe) (hsz : xs.length ≤ sizeLine)
    (hs : ∀ x, foldedSetIterable (.Tuple es kk tpos) X.env x = pure x := by intro _; rfl) :
    DE hv X (.ListComp elt [⟨.Name v vp, .Tuple es kk tpos, [], 0⟩] scope pos) (dLcFn xs i fe) :=
  pe_imp (pe_lc (tt := tDT ⟨X.K, hv⟩ dYes) (te := tD ⟨X.K, hv⟩ fe) hc hN (pi_tup (pe_tup hes)) (blkOk_by ok) hg (fun s H C cl fp => dts_nil (hv := hv)) he hs) (t_lcFn hsz)
theorem ds_asgLcFn {j : Nat} {y : Str} {py spos : Pos} (hc : X.calm = true) (hN : X.N.Nodup) (hes : PA X es (tFns X.K xs)) (okb : blkC X.N X.env.scope scope [(v, i)] = true)
    (hg : ∀ (s : Shared) (H : Hp) (C : Addr) (cl : List (Str × Addr)) (fp : List Addr), PG (X.blk s H scope (compEnvC scope cl C X.env) fp) (.Name v vp) (gName i))
    (he : ∀ (s : Shared) (H : Hp) (C : Addr) (cl : List (Str × Addr)) (fp : List Addr), DE hv (X.blk s H scope (compEnvC scope cl C X.env) fp) elt fe) (hsz : xs.length ≤ sizeLine)
    (hy : X.N[j]? = some y := by rfl) (hyl : X.env.scope.names.lookup y = some .local := by rfl) (hsw : swapsWith (.ListComp elt [⟨.Name v vp, .Tuple es kk tpos, [], 0⟩] scope pos) (some (.Name y py)) spos.line X.env = pure true := by rfl)
    (hs : ∀ x, foldedSetIterable (.Tuple es kk tpos) X.env x = pure x := by intro _; rfl) :
    DS hv X (.Assign [.Name y py] (.ListComp elt [⟨.Name v vp, .Tuple es kk tpos, [], 0⟩] scope pos) spos) (dAsg j (dLcFn xs i fe)) :=
  ps_imp (ps_setLc (tt := tDT ⟨X.K, hv⟩ dYes) (te := tD ⟨X.K, hv⟩ fe) hc hN hy hyl hsw (pi_tup (pe_tup hes)) (blkOk_by okb) hg (fun s H C cl fp => dts_nil (hv := hv)) he hs) fun En σ H ⟨F, γ, hd, P, K0, S, q, ok⟩ => t_lcFn (v := v) hsz σ H _ ⟨γ, hd, P, _, S.s, q, fun t qt v hd1 P1 H1 g1 r1 => by
    obtain ⟨γ', e1, q1⟩ := of_onS qt
    exact ok.nx γ' q1 _ hd1 P1 H1 ((S.grow g1).put r1 e1 S.apart0) (g1.kept S.s.j)⟩
theorem LamAt.blk {T : List (Addr × Str)} {s : Shared} {H : Hp} {scope : Scope} {cl : List (Str × Addr)} {C : Addr} {fp : List Addr} (h : LamAt X T) : LamAt (X.blk s H scope (compEnvC scope cl C X.env) fp) T :=
  let ⟨c, P, h1, h2, h3, h4⟩ := h.ex
  ⟨c, P, h1, h2, h3, h4⟩
end
section
variable {i : Nat} {fe : FE} {γ : Gam} {Q : TV → Prop} {x : Str} {xs : List Str} {acc : List D} {k : List D → Prop}
@[simp] theorem ev_lcFn : dLcFn xs i fe γ Q = lcFn i fe (wipeG γ [i]) xs [] fun out => Q (.fr out) := (rfl)
@[simp] theorem lcFn_nil : lcFn i fe γ [] acc k = k acc := (rfl)
@[simp] theorem lcFn_cons : lcFn i fe γ (x :: xs) acc k = fe (γ.set i (.pl (.fn x))) fun t => onS t.plain fun d => acc.length < sizeLine ∧ lcFn i fe γ xs (acc ++ [d]) k := (rfl)
/-- each gives the same word -/
theorem lcFn_all (d : D) : ∀ (xs : List Str) (acc : List D), acc.length + xs.length ≤ 100000 → (∀ x ∈ xs, ∀ k1 : D → Prop, k1 d → fe (γ.set i (.pl (.fn x))) fun t => onS t.plain k1) → k (acc ++ List.replicate xs.length d) → lcFn i fe γ xs acc k
  | [], acc, _, _, q => by simpa using q
  | x :: xs, acc, hl, h, q => by
    refine h x List.mem_cons_self _ ⟨Nat.lt_of_lt_of_le (show acc.length < 100000 by rw [List.length_cons] at hl; omega) (by rw [sizeLine_eq]; decide), lcFn_all d xs _ (by rw [List.length_append, List.length_singleton]; rw [List.length_cons] at hl; omega) (fun y hy => h y (List.mem_cons_of_mem _ hy)) ?_⟩
    rw [List.length_cons, List.replicate_succ] at q
    rw [List.append_assoc]
    exact q
end
end DL

namespace L2
open PySem PySem.Spec PyProof.Rows
/-! ### a op b op c op d -/
section
variable {X : Cx} {pos : Pos} {a b c d : Expr} {ta tb tc td : TE} {r r' r'' : R2}
def tChain3 (r r' r'' : R2) (ta tb tc td : TE) : TE := fun σ H Q => ta σ H fun x H1 => tb σ H1 fun y H2 => r x y H2 fun z H3 => ∃ k, z = .bl k ∧
  (if k = true then tc σ H3 fun w' H4 => r' y w' H4 fun z2 H5 => ∃ k2, z2 = .bl k2 ∧ (if k2 = true then td σ H5 fun w2 H6 => r'' w' w2 H6 Q else Q (.bl false) H5) else Q (.bl false) H3)
theorem pe_chain3 {op op' op'' : CmpOp} (ho : OpR X (compareOp op) r) (ho' : OpR X (compareOp op') r') (ho'' : OpR X (compareOp op'') r'') (ha : PE X a ta) (hb : PE X b tb) (hc : PE X c tc) (hd : PE X d td)
    (hm : lastMarks [op, op', op''] [b, c, d] = false := by with_unfolding_all rfl) : PE X (.Compare a [op, op', op''] [b, c, d] pos) (tChain3 r r' r'' ta tb tc td) := by
  refine ⟨fun pins s σ H Q I h => ?_⟩
  refine Compare_chain (thn (ha.run pins s σ H _ I h) fun v s1 ⟨x, H1, I1, r1, q1⟩ => chain_link (thn (hb.run pins s1 σ H1 _ I1 q1) fun u s2 ⟨y, H2, I2, r2, q2⟩ =>
    thn (ho pins s2 σ H2 x y v u _ I2 r1 r2 q2) fun d s3 ⟨z, H3, I3, r3, k, e, q3⟩ => ?_)) hm
  subst e
  cases r3
  refine wpAny_truthy_bool ?_
  cases k with
  | false => exact ite_ff ⟨.bl false, H3, I3, rfl, q3⟩
  | true =>
    refine ite_tt (chain_link (thn (hc.run pins s3 σ H3 _ I3 q3) fun w' s4 ⟨z', H4, I4, r4, q4⟩ => thn (ho' pins s4 σ H4 y z' u w' _ I4 r2 r4 q4) fun d' s5 ⟨z2, H5, I5, r5, k2, e2, q5⟩ => ?_))
    subst e2
    cases r5
    refine wpAny_truthy_bool ?_
    cases k2 with
    | false => exact ite_ff ⟨.bl false, H5, I5, rfl, q5⟩
    | true => exact ite_tt (chain_last (thn (hd.run pins s5 σ H5 _ I5 q5) fun w2 s6 ⟨z3, H6, I6, r6, q6⟩ => ho'' pins s6 σ H6 z' z3 w' w2 Q I6 r4 r6 q6))
end
end L2
namespace DL
open PySem PySem.Spec PyProof.Rows L2 PySem.W
def dChain3 (g g' g'' : TV → TV → Option TV) (fa fb fc fd : FE) : FE := fun γ Q => fa γ fun x => fb γ fun y => onS (g x y) (toB fun c => if c = true then fc γ fun z => onS (g' y z) (toB fun c2 => if c2 = true then fd γ fun w => onS (g'' z w) Q else Q (bv false)) else Q (bv false))
theorem of_toB {Q : Bool → Prop} {t : TV} (h : toB Q t) : ∃ b, t.data = some (.bool b) ∧ Q b := by
  unfold toB at h
  split at h
  · rename_i b e; exact ⟨b, e, h⟩
  · exact h.elim
section
variable {X : Cx} {hv : Hv} {pos : Pos} {a b c d e : Expr} {fa fb fc fd fe : FE} {p q r : TV → TV → Option TV}
theorem t_chain3 (σ : L2.St) (H : Hp) (Q : VK) (h : tD ⟨X.K, hv⟩ (dChain3 p q r fa fb fc fd) σ H Q) : tChain3 (rD ⟨X.K, hv⟩ p) (rD ⟨X.K, hv⟩ q) (rD ⟨X.K, hv⟩ r) (tD ⟨X.K, hv⟩ fa) (tD ⟨X.K, hv⟩ fb) (tD ⟨X.K, hv⟩ fc) (tD ⟨X.K, hv⟩ fd) σ H Q := by
  obtain ⟨γ, hd, P, Q0, S, f, k⟩ := h
  refine ⟨γ, hd, P, _, S, f, fun tx qx x hd1 P1 H1 g1 r1 => ?_⟩
  refine ⟨γ, hd1, P1, _, S.grow g1, qx, fun ty qy y hd2 P2 H2 g2 r2 => ?_⟩
  obtain ⟨t, e, qt⟩ := of_onS qy
  have g12 := g1.trans S.j g2
  refine ⟨hd2, P2, H, tx, ty, t, g2.j, r1.grow g1.j g2, r2.start fun a h => g1.free S.j h, e, fun v P3 H3 g3 r3 => ?_⟩
  have g13 := g12.trans S.j g3
  obtain ⟨bb, e1, qt⟩ := of_toB qt
  cases bb with
  | true =>
    refine ⟨true, r3.bl e1, iteT ?_⟩
    refine ⟨γ, hd2, P3, _, S.grow g13, qt, fun tw qw w hd4 P4 H4 g4 r4 => ?_⟩
    obtain ⟨t5, e5, q5⟩ := of_onS qw
    have g14 := g13.trans S.j g4
    refine ⟨hd4, P4, H1, ty, tw, t5, g4.j, (r2.grow g2.j g3).grow g3.j g4, r4.start (fun a h => g2.free g1.j (g3.free g2.j h)), e5, fun v5 P5 H5 g5 r5 => ?_⟩
    have g15 := g14.trans S.j g5
    obtain ⟨b2, e6, q6⟩ := of_toB q5
    cases b2 with
    | true =>
      refine ⟨true, r5.bl e6, iteT ?_⟩
      refine ⟨γ, hd4, P5, _, S.grow g15, q6, fun tz qz z hd6 P6 H6 g6 r6 => ?_⟩
      obtain ⟨t7, e7, q7⟩ := of_onS qz
      have g16 := g15.trans S.j g6
      refine ⟨hd6, P6, H3, tw, tz, t7, g6.j, (r4.grow g4.j g5).grow g5.j g6, r6.start (fun a h => g4.free g3.j (g5.free g4.j h)), e7, fun v7 P7 H7 g7 r7 => ?_⟩
      exact k t7 q7 v7 hd6 P7 H7 (g16.trans S.j g7) (r7.start fun a h => g16.free S.j h)
    | false =>
      refine ⟨false, r5.bl e6, iteF ?_⟩
      exact k _ q6 _ hd4 P5 H5 g15 (Rep.bl false)
  | false =>
    refine ⟨false, r3.bl e1, iteF ?_⟩
    exact k _ qt _ hd2 P3 H3 g13 (Rep.bl false)
theorem de_chain3 {op op' op'' : CmpOp} (ho : OpD hv X (compareOp op) p) (ho' : OpD hv X (compareOp op') q) (ho'' : OpD hv X (compareOp op'') r) (ha : DE hv X a fa) (hb : DE hv X b fb) (hc : DE hv X c fc) (hd : DE hv X d fd)
    (hm : lastMarks [op, op', op''] [b, c, d] = false := by with_unfolding_all rfl) : DE hv X (.Compare a [op, op', op''] [b, c, d] pos) (dChain3 p q r fa fb fc fd) := pe_imp (pe_chain3 ho ho' ho'' ha hb hc hd hm) t_chain3
@[simp] theorem ev_chain3 {γ : Gam} {Q : TV → Prop} : dChain3 p q r fa fb fc fd γ Q = fa γ fun x => fb γ fun y => onS (p x y) (toB fun c => if c = true then fc γ fun z => onS (q y z) (toB fun c2 => if c2 = true then fd γ fun w => onS (r z w) Q else Q (bv false)) else Q (bv false)) := (rfl)
end
end DL

namespace DL
open PySem PySem.Spec PyProof.Rows L2 PySem.W
/-! ### deep things: of one item at each level -/
def oneN : Nat → D → Bool
  | 0, _ => true
  | k + 1, d => !PyData.isInt d && match d with
    | .tuple xs => (match xs with
      | [x] => oneN k x
      | _ => false)
    | _ => true
/-- a deep thing -/
structure Deep (d : D) : Prop where
  one : ∀ k, oneN k d = true
  cnt : cnt d ≤ 100
theorem Deep.tup {xs : List D} (h : Deep (.tuple xs)) : ∃ x, xs = [x] ∧ Deep x := by
  have h1 := h.one 1
  match xs, h with
  | [], h => simp [oneN] at h1
  | [x], h =>
    refine ⟨x, rfl, fun k => ?_, ?_⟩
    · have := h.one (k + 1)
      simpa [oneN] using this
    · have := h.cnt
      simp [DL.cnt, cnts] at this
      omega
  | x :: y :: r, h => simp [oneN] at h1
theorem Deep.int {d : D} (h : Deep d) : PyData.isInt d = false := by
  have := h.one 1
  simp [oneN] at this
  exact this.1
theorem Deep.inD {d : D} (h : Deep d) {lo hi : Int} : inD lo hi d = false := by
  have := h.int
  cases d with
  | int i => simp at this
  | _ => rfl
theorem Deep.len {xs : List D} (h : Deep (.tuple xs)) : xs.length = 1 := by
  obtain ⟨x, rfl, _⟩ := h.tup
  rfl
def gsp_deep : Spec := sp1 fun a Q => a = .hand ∧ ∀ d, Deep d → Q (.d d)
def gm_deep : FS := (dSeq2 (dAsg 1 (dCall csp_some (dCons (dVar 0) (dCons (dLst (dCons (dCon .none) (dCons (dCon (.str "?")) (dCons dDict0 dNil)))) dNil))))
  (dSeq2 (dWeak [2] (dFor (dRng1 (dCons (dOp addT (dCon (.int 1)) (dCall sp_draw (dCons (dVar 0) (dCons (dCon (.int 25)) dNil)))) dNil)) (bName 2) [2] (dAsg 1 (dOp idxT (dLst (dCons (dTup (dCons (dVar 1) dNil)) (dCons (dLst (dCons (dVar 1) dNil)) (dCons (dDisp1 (dCon (.int 0)) (dVar 1)) dNil)))) (dCall sp_draw (dCons (dVar 0) (dCons (dCon (.int 3)) dNil)))))))
  (dRetV 1)))
theorem gmeets_deep : Meets 3 gm_deep gsp_deep := meets1 fun a Q ⟨ha, q⟩ => by
  subst ha
  unfold gm_deep
  refine step fun k hk => ?_
  simp [gam0, csp_some]
  suffices key : ∀ d, (∀ k, oneN k d = true) → cnt d ≤ 5 → k [.pl .hand, .pl (.d d), .non] from ⟨key _ (fun k => by cases k <;> rfl) (by decide), key _ (fun k => by cases k <;> rfl) (by decide), key _ (fun k => by cases k <;> rfl) (by decide)⟩
  intro d hd hc
  subst hk
  refine step fun k hk => ?_
  simp [sp_draw]
  intro n n0 n1
  refine ⟨by omega, by omega, ?_⟩
  refine for_range (fun i γ => ∃ d, γ = [.pl .hand, .pl (.d d), .non] ∧ (∀ k, oneN k d = true) ∧ cnt d ≤ 5 + 3 * i) ⟨d, rfl, hd, hc⟩ ?_ ?_
  · rintro i γ hi ⟨d, rfl, hd, hc⟩
    refine ⟨_, rfl, fun K' nx ct bk rt => ?_⟩
    clear ct bk rt
    simp [sp_draw]
    intro r r0 r1
    have hr : r = 0 ∨ r = 1 ∨ r = 2 := by omega
    rcases hr with rfl | rfl | rfl
    · simp
      refine nx _ ⟨_, rfl, fun k => ?_, by simp [cnt, cnts]; omega⟩
      cases k with
      | zero => rfl
      | succ k => simpa [oneN] using hd k
    · simp
      exact nx _ ⟨_, rfl, fun k => by cases k <;> simp [oneN], by simp [cnt, cnts]; omega⟩
    · simp
      exact nx _ ⟨_, rfl, fun k => by cases k <;> simp [oneN], by simp [cnt]; omega⟩
  · rintro γ ⟨d, rfl, hd, hc⟩
    subst hk
    simp [thenK_ap]
    exact q d ⟨hd, by omega⟩
def csp_isint : Spec := sp1 fun a Q => ∃ d, a = .d d ∧ Q (vB (isIntD d))
theorem cmeets_isint : Meets 1 (dRet (dAndV (dIsa PyData.isInt (dVar 0)) (dNotV (dIsa PyData.isBool (dVar 0))))) csp_isint := gmeets_int
/-- a loop over any things -/
theorem forL {b : BT} {fg : List Nat} {body : FS} {γ : Gam} {K : DK} (ds : List D) (I : List D → Gam → Prop) (h0 : I ds γ)
    (hstep : ∀ x r γ, I (x :: r) γ → ∃ γ2, b x γ = some γ2 ∧ ∀ K' : DK, (∀ γ', I r (wipeG γ' fg) → K'.nx γ') → (∀ γ', I r (wipeG γ' fg) → K'.ct γ') → (∀ γ', K.nx (wipeG γ' fg) → K'.bk γ') → (∀ t, K.rt t → K'.rt t) → body γ2 K')
    (hend : ∀ γ, I [] γ → K.nx γ) : forD b fg body ds γ K := by
  have := forS (b := b) (fg := fg) (body := body) (γ := γ) (K := K) (fun d : D => d) ds I h0 hstep hend
  rwa [List.map_id'] at this
theorem in_int {lo hi : Int} {d : D} (h : inD lo hi d = true) : ∃ i : Int, d = .int i ∧ lo ≤ i ∧ i ≤ hi := by
  cases d with
  | int i => simp at h; exact ⟨i, rfl, h.1, h.2⟩
  | _ => cases h
theorem tup_2 {d : D} (h : tupN 2 d = true) : ∃ x y, d = .tuple [x, y] := by
  cases d with
  | tuple xs =>
    simp at h
    match xs, h with
    | [x, y], _ => exact ⟨x, y, rfl⟩
    | [], h => simp at h
    | [x], h => simp at h
    | x :: y :: z :: r, h => rw [List.length_cons, List.length_cons, List.length_cons] at h; omega
  | _ => cases h
end DL

namespace DL
open PySem PySem.Spec PyProof.Rows L2 PySem.W
/-! ### dicts of typed keys and values -/
theorem asKeys_strs : ∀ xs : List (List Nat), (asKeys (xs.map sD)).isSome = true
  | [] => rfl
  | x :: xs => by
    have h := asKeys_strs xs
    rw [List.map_cons]
    show (asKeys (.str (tx x) :: xs.map sD)).isSome = true
    rw [asKeys]
    cases e : asKeys (xs.map sD) with
    | none => rw [e] at h; cases h
    | some ks => rfl
instance : Ky (tpD sD) true := ⟨fun xs => asKeys_strs xs, fun _ => rfl⟩
section
variable {α β : Type} [DecidableEq α] {e : α → D} {f : β → D} {n : Nat} {t : Bool}
def kvD (e : α → D) (f : β → D) (l : List (α × β)) : List (D × D) := l.map fun q => (e q.1, f q.2)
def getK (l : List (α × β)) (x : α) : Option β := (l.find? fun q => decide (q.1 = x)).map (·.2)
def insK (l : List (α × β)) (x : α) (y : β) : List (α × β) := if (l.any fun q => decide (q.1 = x)) = true then l.map fun q => if q.1 = x then (q.1, y) else q else l ++ [(x, y)]
@[simp] theorem kvD_len {l : List (α × β)} : (kvD e f l).length = l.length := List.length_map ..
@[simp] theorem kvD_keys {l : List (α × β)} : (kvD e f l).map (·.1) = (l.map (·.1)).map e := by unfold kvD; rw [List.map_map, List.map_map]; rfl
@[simp] theorem kvD_nil : kvD e f [] = [] := rfl
theorem kvD_find [hT : Ty e n] {l : List (α × β)} {x : α} : findD (kvD e f l) (e x) = (getK l x).map f := by
  unfold findD getK kvD
  rw [List.find?_map]
  have : ((fun q : D × D => PyData.eqv q.1 (e x)) ∘ fun q : α × β => (e q.1, f q.2)) = fun q => decide (q.1 = x) := by
    funext q
    exact eqv_ty (e := e) q.1 x
  rw [this]
  cases l.find? fun q => decide (q.1 = x) <;> rfl
theorem kvD_any [hT : Ty e n] {l : List (α × β)} {x : α} : ((kvD e f l).any fun q => PyData.eqv q.1 (e x)) = l.any fun q => decide (q.1 = x) := by
  unfold kvD
  rw [List.any_map]
  congr 1
  funext q
  exact eqv_ty (e := e) q.1 x
theorem kvD_all [hK : Ky e t] {l : List (α × β)} : allIT (kvD e f l) t = true := by
  unfold allIT kvD
  rw [List.all_map, List.all_eq_true]
  intro a ha
  show (isTup (e a.1) == t) = true
  rw [hK.tup]
  exact beq_self_eq_true t
theorem kvD_put [hT : Ty e n] {l : List (α × β)} {x : α} {y : β} : putD (kvD e f l) (e x) (f y) = kvD e f (insK l x y) := by
  unfold putD insK
  rw [kvD_any]
  split
  · unfold kvD
    rw [List.map_map, List.map_map]
    refine List.map_congr_left fun q hq => ?_
    show (if PyData.eqv (e q.1) (e x) = true then (e q.1, f y) else (e q.1, f q.2)) = _
    rw [eqv_ty (e := e)]
    by_cases h : q.1 = x
    · simp [h]
    · simp [h]
  · unfold kvD
    rw [List.map_append]
    rfl
theorem setT_kv [hT : Ty e n] [hK : Ky e t] {γ : Gam} {i : Nat} {l : List (α × β)} {x : α} {y : β} (h : γ[i]? = some (.od (kvD e f l))) (hl : l.length < 100000) : setT i (f y) (e x) γ = some (γ.set i (.od (kvD e f (insK l x y)))) := by
  unfold setT
  rw [h]
  show (if _ then _ else _) = _
  rw [if_pos ⟨hK.ok x, .inr (by rw [hK.tup]; exact kvD_all), by rw [kvD_len]; exact Nat.lt_of_lt_of_le hl (Nat.le_of_lt szl)⟩, kvD_put]
theorem addD_kv [hT : Ty e n] [hK : Ky e t] {l : List (α × β)} {x : α} {y : β} (hl : l.length < 100000) : addD (kvD e f l) (e x) (f y) = some (kvD e f (insK l x y)) := by
  unfold addD
  rw [if_pos ⟨hK.ok x, .inr (by rw [hK.tup]; exact kvD_all), by rw [kvD_len]; exact Nat.lt_of_lt_of_le hl (Nat.le_of_lt szl)⟩, kvD_put]
theorem in_kv [hT : Ty e n] [hK : Ky e t] {neg : Bool} {u : TV} {l : List (α × β)} {x : α} (hu : u.data = some (.dict (kvD e f l))) : inT neg (.pl (.d (e x))) u = some (.pl (.d (.bool (xor neg (getK l x).isSome)))) := by
  have h : inT neg (.pl (.d (e x))) u = if keyOk (e x) = true ∧ (kvD e f l = [] ∨ allIT (kvD e f l) (isTup (e x)) = true) then some (bv (xor neg (findD (kvD e f l) (e x)).isSome)) else none := by
    unfold inT
    rw [hu]
    show (match (some (e x) : Option D), (some (.dict (kvD e f l)) : Option D) with | _, _ => _) = _
    cases e x <;> rfl
  rw [h, if_pos ⟨hK.ok x, .inr (by rw [hK.tup]; exact kvD_all)⟩, kvD_find]
  cases getK l x <;> rfl
theorem idx_kv [hT : Ty e n] [hK : Ky e t] {u : TV} {l : List (α × β)} {x : α} (hu : u.data = some (.dict (kvD e f l))) : idxT u (.pl (.d (e x))) = (getK l x).map fun y => .pl (.d (f y)) := by
  have h : idxT u (.pl (.d (e x))) = if keyOk (e x) = true ∧ (kvD e f l = [] ∨ allIT (kvD e f l) (isTup (e x)) = true) then (findD (kvD e f l) (e x)).map pd else none := by
    unfold idxT
    rw [hu]
    rfl
  rw [h, if_pos ⟨hK.ok x, .inr (by rw [hK.tup]; exact kvD_all)⟩, kvD_find, Option.map_map]
  rfl
theorem get_kv [hT : Ty e n] [hK : Ky e t] {u z : TV} {l : List (α × β)} {x : α} {Q : TV → Prop} (hu : u.data = some (.dict (kvD e f l))) (h1 : ∀ y, getK l x = some y → Q (.pl (.d (f y)))) (h2 : getK l x = none → Q z) : gGet2 u (.pl (.d (e x))) z Q := by
  unfold gGet2
  rw [hu]
  show (_ ∧ _) ∧ _
  refine ⟨⟨hK.ok x, .inr (by rw [hK.tup]; exact kvD_all)⟩, ?_⟩
  rw [kvD_find]
  cases e2 : getK l x with
  | none => exact h2 e2
  | some y => exact h1 y e2
theorem idxL_kv [hT : Ty e n] [hK : Ky e t] {l : List (α × β)} {x : α} : idxL (.pl (.lk t (kvD e f l))) (.pl (.d (e x))) = (getK l x).map fun y => .pl (.d (f y)) := by
  show (if keyOk (e x) = true ∧ isTup (e x) = t then (findD (kvD e f l) (e x)).map pd else none) = _
  rw [if_pos ⟨hK.ok x, hK.tup x⟩, kvD_find, Option.map_map]
  rfl
theorem inL_kv [hT : Ty e n] [hK : Ky e t] {neg : Bool} {l : List (α × β)} {x : α} : inL neg (.pl (.d (e x))) (.pl (.lk t (kvD e f l))) = some (.pl (.d (.bool (xor neg (getK l x).isSome)))) := by
  show (if keyOk (e x) = true ∧ isTup (e x) = t then some (bv (xor neg (findD (kvD e f l) (e x)).isSome)) else none) = _
  rw [if_pos ⟨hK.ok x, hK.tup x⟩, kvD_find]
  cases getK l x <;> rfl
theorem inL_k [hT : Ty e n] [hK : Ky e t] {neg : Bool} {ks : List α} {x : α} : inL neg (.pl (.d (e x))) (.pl (.lk t (kD e ks))) = some (.pl (.d (.bool (xor neg (decide (x ∈ ks)))))) := by
  show (if keyOk (e x) = true ∧ isTup (e x) = t then some (bv (xor neg (findD (kD e ks) (e x)).isSome)) else none) = _
  rw [if_pos ⟨hK.ok x, hK.tup x⟩]
  have : (findD (kD e ks) (e x)).isSome = decide (x ∈ ks) := by
    have e2 := kD_any (e := e) (ks := ks) (x := x)
    rw [← e2]
    unfold findD
    rw [Option.isSome_map, Bool.eq_iff_iff, List.find?_isSome, List.any_eq_true]
  rw [this]
  rfl
theorem getK_some {l : List (α × β)} {x : α} {y : β} (h : getK l x = some y) : (x, y) ∈ l := by
  unfold getK at h
  obtain ⟨q, hq, rfl⟩ := Option.map_eq_some_iff.mp h
  have h1 := List.mem_of_find?_eq_some hq
  have h2 := List.find?_some hq
  simp at h2
  rw [← h2]
  exact h1
theorem getK_none {l : List (α × β)} {x : α} : getK l x = none ↔ x ∉ l.map (·.1) := by
  unfold getK
  rw [Option.map_eq_none_iff, List.find?_eq_none]
  constructor
  · intro h hx
    obtain ⟨q, hq, e⟩ := List.mem_map.mp hx
    exact h q hq (by simpa using e)
  · intro h q hq e
    exact h (List.mem_map.mpr ⟨q, hq, by simpa using e⟩)
theorem getK_nil {x : α} : getK ([] : List (α × β)) x = none := rfl
theorem getK_ins {l : List (α × β)} {x z : α} {y : β} : getK (insK l x y) z = if z = x then some y else getK l z := by
  have app : ∀ (l : List (α × β)), getK (l ++ [(x, y)]) z = (getK l z).or (if z = x then some y else none) := by
    intro l
    unfold getK
    rw [List.find?_append]
    cases l.find? fun q => decide (q.1 = z) with
    | some q => rfl
    | none =>
      by_cases h : z = x
      · subst h; simp
      · have : ¬ x = z := fun w => h w.symm
        simp [h, this]
  unfold insK
  split
  · rename_i ha
    have key : ∀ l : List (α × β), getK (l.map fun q => if q.1 = x then (q.1, y) else q) z = if z = x ∧ (l.any fun q => decide (q.1 = x)) = true then some y else getK l z := by
      intro l
      induction l with
      | nil => simp [getK]
      | cons q r ih =>
        have cons : ∀ (a : α × β) (s : List (α × β)), getK (a :: s) z = if a.1 = z then some a.2 else getK s z := by
          intro a s
          unfold getK
          rw [List.find?_cons]
          by_cases h : a.1 = z
          · simp [h]
          · simp [h]
        rw [List.map_cons, cons, cons, ih]
        by_cases h1 : q.1 = x
        · by_cases h2 : q.1 = z
          · simp [h1]
            have : x = z := h1.symm.trans h2
            simp [this]
          · have h3 : ¬ x = z := fun w => h2 (h1.trans w)
            have h4 : ¬ z = x := fun w => h3 w.symm
            simp [h1, h3, h4]
        · by_cases h2 : q.1 = z
          · have h3 : ¬ z = x := fun w => h1 (h2.trans w)
            simp [h1, h2, h3]
          · by_cases h3 : z = x
            · subst h3
              rw [if_neg h1, if_neg h1, List.any_cons, decide_eq_false h1, Bool.false_or, if_neg h2]
            · simp [h1, h2, h3]
    rw [key, ha]
    by_cases h : z = x <;> simp [h]
  · rename_i ha
    rw [app]
    by_cases h : z = x
    · subst h
      have : getK l z = none := getK_none.mpr fun hz => by
        obtain ⟨q, hq, e⟩ := List.mem_map.mp hz
        exact ha (List.any_eq_true.mpr ⟨q, hq, by simpa using e⟩)
      simp [this]
    · simp [h]
theorem insK_keys {l : List (α × β)} {x : α} {y : β} : (insK l x y).map (·.1) = ins1 (l.map (·.1)) x := by
  unfold insK ins1
  by_cases h : x ∈ l.map (·.1)
  · rw [if_pos h, if_pos (by
      obtain ⟨q, hq, e⟩ := List.mem_map.mp h
      exact List.any_eq_true.mpr ⟨q, hq, by simpa using e⟩), List.map_map]
    refine List.map_congr_left fun q hq => ?_
    show (if q.1 = x then (q.1, y) else q).1 = q.1
    split <;> rfl
  · rw [if_neg h, if_neg (fun z => h (by
      obtain ⟨q, hq, e⟩ := List.any_eq_true.mp z
      exact List.mem_map.mpr ⟨q, hq, by simpa using e⟩)), List.map_append]
    rfl
theorem insK_len {l : List (α × β)} {x : α} {y : β} : (insK l x y).length ≤ l.length + 1 := by
  unfold insK
  split <;> simp
/-- {g x: h x for x in xs if p x} -/
theorem kcV {γ' : Type} {ε : γ' → D} (p : γ' → Bool) (g : γ' → α) (h : γ' → β) [hT : Ty e n] [hK : Ky e t] {b : BT} {fc : FT} {fk fv : FE} {γ : Gam} {k : List (D × D) → Prop} : ∀ (xs : List γ') (l : List (α × β)), xs.length + l.length < 100000 →
    (∀ x ∈ xs, ∀ (k1 : D → D → Prop) (k0 : Prop), (p x = true → k1 (e (g x)) (f (h x))) → (p x = false → k0) → onS (b (ε x) γ) fun γ2 => fc γ2 fun c => if c = true then fk γ2 fun tk => onS tk.data fun kd => keyOk kd = true ∧ fv γ2 fun tv => onS tv.plain fun x => k1 kd x else k0) →
    k (kvD e f ((xs.filter p).foldl (fun l x => insK l (g x) (h x)) l)) → kcD b fc fk fv γ (xs.map ε) (kvD e f l) k
  | [], l, _, _, q => q
  | x :: xs, l, hl, hh, q => by
    rw [List.length_cons] at hl
    refine hh x List.mem_cons_self (fun kd xd => onS (addD (kvD e f l) kd xd) fun acc' => kcD b fc fk fv γ (xs.map ε) acc' k) (kcD b fc fk fv γ (xs.map ε) (kvD e f l) k) (fun hp => ?_) fun hp => ?_
    · show onS (addD (kvD e f l) (e (g x)) (f (h x))) _
      rw [addD_kv (by omega)]
      rw [List.filter_cons_of_pos hp, List.foldl_cons] at q
      have := insK_len (l := l) (x := g x) (y := h x)
      exact kcV p g h xs (insK l (g x) (h x)) (by omega) (fun y hy => hh y (List.mem_cons_of_mem _ hy)) q
    · rw [List.filter_cons_of_neg (by rw [hp]; decide)] at q
      exact kcV p g h xs l (by omega) (fun y hy => hh y (List.mem_cons_of_mem _ hy)) q
end
end DL


namespace DL.K41
open PySem PySem.Spec PyProof.Rows L2 PySem.W
def top (i : Nat) : Stmt := PySem.Challenge.pw_cordfire_k41_whole_jets_in_order_and_sky.main.body.getD i (.Pass ⟨0, 0, 0, 0⟩)
def defs : List Stmt := [top 1, top 2, top 3, top 9, top 10, top 15, top 16, top 17, top 18, top 19, top 20, top 21, top 22, top 23, top 24, top 25, top 26, top 27, top 28, top 29, top 30, top 31, top 32, top 34, top 35, top 36, top 37, top 38, top 39, top 40, top 41, top 42, top 43, top 44, top 45, top 46, top 47, top 48, top 49]
def frees : List Str := (["ValueError", "abs", "all", "bool", "enumerate", "int", "isinstance", "len", "list", "max", "range", "repr", "sorted", "sum", "tuple", "zip"] : List Str)
def gis : List (Str × Int) := [("MOST_JETS", 10), ("MOST_PLACE", 60), ("MOST_HEIGHT", 60)]
def gss : List (Str × Str) := []
def gns : List Str := []
def excs : List Str := (["NoJets", "NoPlace"] : List Str)
def allx : List Str := (["NoJets", "NoPlace"] : List Str)
def lamds : List Str := (["_law_are_refused"] : List Str)
abbrev GG := Glob defs frees gis gss gns
/-! ### what each def promises -/
structure Jt where
  l : Int
  r : Int
  h : Int
deriving DecidableEq
def jD (j : Jt) : D := dT [dI j.l, dI j.r, dI j.h]
def okJ (j : Jt) : Prop := (0 ≤ j.l ∧ j.l < j.r ∧ j.r ≤ 60) ∧ 1 ≤ j.h ∧ j.h ≤ 60
instance (j : Jt) : Decidable (okJ j) := by unfold okJ; infer_instance
def hat (j : Jt) (p : Int) : Int := if j.l ≤ p ∧ p < j.r then j.h else 0
def peakF (J : List Jt) (b p : Int) : Int := (J.map fun j => hat j p).foldl max b
abbrev peak (J : List Jt) (p : Int) : Int := peakF J 0 p
noncomputable def peaks (J : List Jt) (n : Nat) : List Int := tab (fun i => peak J (i : Nat)) n
def isJets (a : RV) (q : List Jt → Prop) : Prop := ∃ J : List Jt, a = vT (J.map jD) ∧ J.length ≤ 10 ∧ (∀ j ∈ J, okJ j) ∧ q J
def isJetsL (a : RV) (q : List Jt → Prop) : Prop := ∃ J : List Jt, (a = vT (J.map jD) ∨ a = vL (J.map jD)) ∧ J.length ≤ 10 ∧ (∀ j ∈ J, okJ j) ∧ q J
abbrev PI := Int × Int
abbrev pD : PI → D := p2 dI dI
/-- where heights change -/
def sk : Nat → Int → List Int → List PI
  | _, _, [] => []
  | p, last, h :: r => if h = last then sk (p + 1) h r else ((p : Int), h) :: sk (p + 1) h r
noncomputable def sky (J : List Jt) : List PI := sk 0 0 (peaks J 61)
def allL (m : Nat) : List (List Int) := (up 0 (m + 1)).flatMap fun k => lotsN m k.toNat
def subJ (J : List Jt) (lot : List Int) : List Jt := lot.map fun i => J.getD i.toNat ⟨0, 1, 1⟩
def hts (J : List Jt) (n : Nat) : List Int := (up 0 n).map (peak J)
def fewO (J : List Jt) : Option (List Int) := (allL J.length).find? fun lot => decide (hts (subJ J lot) 60 = hts J 60)
def keysT (J : List Jt) : List (Int × Int) := (up 0 J.length).map fun i => (0 - (J.getD i.toNat ⟨0, 1, 1⟩).h, i)
def isTall (J : List Jt) (l : List Int) : Prop := ∃ ys : List (Int × Int), ys.Perm (keysT J) ∧ (ys.Pairwise fun a b => lexP ltI ltI b a = false) ∧ l = ys.map (·.2)
def isJetB (d : D) : Bool := match d with
  | .tuple [.int l, .int r, .int h] => ((decide (0 ≤ l) && decide (l ≤ 60)) && (decide (0 ≤ r) && decide (r ≤ 60))) && (decide (l < r) && (decide (1 ≤ h) && decide (h ≤ 60)))
  | _ => false
def okJsB (d : D) : Bool := match d with
  | .tuple xs => decide (xs.length ≤ 10) && xs.all isJetB
  | _ => false
def isChB (d : D) : Bool := match d with
  | .tuple [.int p, .int h] => (decide (0 ≤ p) && decide (p ≤ 60)) && (decide (0 ≤ h) && decide (h ≤ 60))
  | _ => false
def chOf (d : D) : PI := match d with
  | .tuple [.int p, .int h] => (p, h)
  | _ => (0, 0)
def altB : Int → List PI → Bool
  | _, [] => true
  | l, x :: r => !decide (x.2 = l) && altB x.2 r
def ascB (C : List PI) : Bool := (C.zip C.tail).all fun q => decide (q.1.1 < q.2.1)
def endB (C : List PI) : Bool := match C.getLast? with
  | none => true
  | some x => decide (x.2 = 0)
def isLineB (d : D) : Bool := match d with
  | .tuple xs => xs.all isChB && ((altB 0 (xs.map chOf) && ascB (xs.map chOf)) && endB (xs.map chOf))
  | _ => false
/-- by going along -/
def lineG : Int → Int → List D → Bool
  | _, hi, [] => decide (hi = 0)
  | l, hi, x :: r => match x with
    | .tuple [.int p, .int h] => (((decide (l < p) && decide (p ≤ 60)) && (decide (0 ≤ h) && decide (h ≤ 60))) && !decide (h = hi)) && lineG p h r
    | _ => false
def lineB (d : D) : Bool := match d with
  | .tuple xs => lineG (-1) 0 xs
  | _ => false
abbrev sp_is_integer : Spec := gsp_int
abbrev sp_is_within : Spec := gsp_within
abbrev sp_is_tuple_of : Spec := gsp_tupof
abbrev sp_lots_of : Spec := csp_lots
def sp_all_lots : Spec := sp1 fun a Q => onE dI a fun m => (0 ≤ m ∧ m ≤ 7) ∧ Q (.d (.list ((allL m.toNat).map (tpD dI))))
def sp_is_jet : Spec := sp1 fun a Q => anyD a fun d => Q (vB (isJetB d))
def sp_check_jets : Spec := sp1 fun a Q => isJets a fun _ => Q vN
def sp_height_at : Spec := sp2 fun a b Q => ∃ j p, a = .d (jD j) ∧ b = vI p ∧ Q (vI (hat j p))
def sp_heights_of : Spec := sp1 fun a Q => isJetsL a fun J => Q (vL ((peaks J 60).map dI))
def sp_raw_skyline : Spec := sp1 fun a Q => isJets a fun J => Q (vL ((sky J).map pD))
def sp_skyline : Spec := sp1 fun a Q => isJets a fun J => Q (vT ((sky J).map pD))
def sp_tallest_order : Spec := sp1 fun a Q => isJets a fun J => ∀ l, isTall J l → Q (.d (tpD dI l))
def sp_fewest_for : Spec := sp1 fun a Q => isJets a fun J => J.length ≤ 7 ∧ Q (optR (tpD dI) (fewO J))
def sp_is_change : Spec := sp1 fun a Q => anyD a fun d => Q (vB (isChB d))
def sp_do_change : Spec := sp1 fun a Q => ∃ C : List PI, a = vT (C.map pD) ∧ C.length ≤ 1000 ∧ Q (vB (altB 0 C && ascB C))
def sp_is_skyline : Spec := sp1 fun a Q => anyD a fun d => Q (vB (isLineB d))
abbrev sp__law_draw : Spec := sp_draw
abbrev sp__law_some : Spec := csp_some
abbrev sp__law_is_int : Spec := gsp_int
abbrev sp__law_deep : Spec := gsp_deep
def sp__law_jets : Spec := sp2 fun a b Q => a = .hand ∧ b = vI 7 ∧ ∀ J : List Jt, J.length ≤ 7 → (∀ j ∈ J, okJ j) → Q (vT (J.map jD))
def sp__law_heights : Spec := sp1 fun a Q => isJets a fun J => Q (vL ((peaks J 61).map dI))
def sp__law_skyline : Spec := sp1 fun a Q => isJets a fun J => Q (vT ((sky J).map pD))
def sp__law_no_jets : Spec := sp1 fun a Q => a = .hand ∧ ∀ d, okJsB d = false → cnt d ≤ 1000 → Q (.d d)
def sp__law_fewest : Spec := sp1 fun a Q => isJets a fun J => J.length ≤ 7 ∧ Q (optR (tpD dI) (fewO J))
def sp__law_is_line : Spec := sp1 fun a Q => anyD a fun d => Q (vB (lineB d))
def sp__law_bent : Spec := sp2 fun a b Q => a = .hand ∧ ∃ C : List PI, b = vT (C.map pD) ∧ C.length ≤ 61 ∧ ∀ d, cnt d ≤ 1000 → Q (.d d)
def sp__law_is_right : Spec := sp2 fun a b Q => a = .hand ∧ isJets b fun J => J.length ≤ 7 ∧ Q (vB true)
def sp__law_are_refused : Spec := sp1 fun a Q => a = .hand ∧ Q (vB true)
def wordX (x : Str) : Str := if x = "NoJets" then "jets" else "place"
def sp__law_word : SpecW := fun o R => match o with
  | .inl _ => R (vS "told")
  | .inr x => x ∈ excs ∧ R (vS (wordX x))
/-! ### what each def refuses -/
def xJ : SpecX := sxp1 fun a X => badD okJsB a (X "NoJets")
abbrev spx_check_jets : SpecX := xJ
abbrev spx_area : SpecX := xJ
abbrev spx_gaps : SpecX := xJ
abbrev spx_fewest_for : SpecX := xJ
abbrev spx_hidden_jets : SpecX := xJ
abbrev spx_seen_of : SpecX := xJ
abbrev spx_skyline : SpecX := xJ
abbrev spx_tallest_order : SpecX := xJ
def spx_highest_at : SpecX := sxp2 fun a b X => (∃ e, b = .d e) ∧ (badD okJsB a (X "NoJets") ∨ isJets a fun _ => onD b fun e => inD 0 59 e = false ∧ X "NoPlace")

def m_is_integer : FS := (dRet (dAndV (dIsa PyData.isInt (dVar 0)) (dNotV (dIsa PyData.isBool (dVar 0)))))
def m_is_within : FS := (dRet (dAndV (dCall sp_is_integer (dCons (dVar 0) dNil)) (dChain (ltT le_) (ltT le_) (dVar 1) (dVar 0) (dVar 2))))
def m_is_tuple_of : FS := (dRet (dAndV (dIsa PyData.isTuple (dVar 0)) (dOp eqT (dBlt gLen (dCons (dVar 0) dNil)) (dVar 1))))
def m_lots_of : FS := (dSeq2 (dAsg 2 (dLst (dCons (dTup dNil) dNil)))
  (dSeq2 (dWeak [3, 4, 5, 6] (dFor (dRng1 (dCons (dVar 1) dNil)) (bName 3) [3, 4, 5, 6] (dSeq2 (dAsg 4 (dLst dNil))
  (dSeq2 (dFrz [2] (dWeak [5, 6] (dFor (dSeq (dVar 2)) (bName 5) [5, 6] (dSeq2 (dAsg 6 (dIte (dB (dOp (ltT gt_) (dBlt gLen (dCons (dVar 5) dNil)) (dCon (.int 0)))) (dOp addT (dOp idxT (dVar 5) (dNeg (dCon (.int 1)))) (dCon (.int 1))) (dCon (.int 0))))
  (dExt 4 (dLc (dRng2 (dCons (dVar 6) (dCons (dVar 0) dNil))) (bName 7) [7] dYes (dOp addT (dVar 5) (dTup (dCons (dVar 7) dNil)))))))))
  (dFrz [4] (dAsg 2 (dVar 4)))))))
  (dRetV 2)))
def m_all_lots : FS := (dSeq2 (dAsg 1 (dLst dNil))
  (dSeq2 (dWeak [2] (dFor (dRng1 (dCons (dOp addT (dVar 0) (dCon (.int 1))) dNil)) (bName 2) [2] (dExt 1 (dCall sp_lots_of (dCons (dVar 0) (dCons (dVar 2) dNil))))))
  (dRetV 1)))
def m_is_jet : FS := (dSeq2 (dIf (dOr (dNot (dTru (dCall sp_is_tuple_of (dCons (dVar 0) (dCons (dCon (.int 3)) dNil))))) (dNot (dTru (dBlt gAll (dCons (dLc (dSeq (dSlc (dVar 0) dNo (dPart (dCon (.int 2))))) (bName 1) [1] dYes (dCall sp_is_within (dCons (dVar 1) (dCons (dCon (.int 0)) (dCons (dCon (.int (60))) dNil))))) dNil))))) (dRet (dCon (.bool false))) dSkip)
  (dRet (dAndV (dOp (ltT lt_) (dOp idxT (dVar 0) (dCon (.int 0))) (dOp idxT (dVar 0) (dCon (.int 1)))) (dCall sp_is_within (dCons (dOp idxT (dVar 0) (dCon (.int 2))) (dCons (dCon (.int 1)) (dCons (dCon (.int (60))) dNil)))))))
def m_check_jets : FS := (dIf (dOr (dNot (dTru (dIsa PyData.isTuple (dVar 0)))) (dOr (dB (dOp (ltT gt_) (dBlt gLen (dCons (dVar 0) dNil)) (dCon (.int (10))))) (dNot (dTru (dBlt gAll (dCons (dLc (dSeq (dVar 0)) (bName 1) [1] dYes (dCall sp_is_jet (dCons (dVar 1) dNil))) dNil)))))) dNever dSkip)
def m_height_at : FS := (dRet (dIte (dB (dChain (ltT le_) (ltT lt_) (dOp idxT (dVar 0) (dCon (.int 0))) (dVar 1) (dOp idxT (dVar 0) (dCon (.int 1))))) (dOp idxT (dVar 0) (dCon (.int 2))) (dCon (.int 0))))
def m_heights_of : FS := (dRet (dLc (dRng1 (dCons (dCon (.int (60))) dNil)) (bName 1) [1] dYes (dBlt gMax (dCons (dOp addT (dLst (dCons (dCon (.int 0)) dNil)) (dLc (dSeq (dVar 0)) (bName 2) [2] dYes (dCall sp_height_at (dCons (dVar 2) (dCons (dVar 1) dNil))))) dNil))))
def m_raw_skyline : FS := (dSeq2 (dPar [1, 2] (dCons (dLst dNil) (dCons (dCon (.int 0)) dNil)))
  (dSeq2 (dWeak [3, 4] (dFor (dEnumT (dCons (dOp addT (dCall sp_heights_of (dCons (dVar 0) dNil)) (dLst (dCons (dCon (.int 0)) dNil))) dNil)) (bTup 2 (bCons (bName 3) (bCons (bName 4) bNil))) [3, 4] (dSeq2 (dIf (dB (dOp neT (dVar 4) (dVar 2))) (dApp 1 (dTup (dCons (dVar 3) (dCons (dVar 4) dNil)))) dSkip)
  (dAsg 2 (dVar 4)))))
  (dRetV 1)))
def m_skyline : FS := (dSeq2 (dExp (dCall sp_check_jets (dCons (dVar 0) dNil)))
  (dRet (dBlt gTuple (dCons (dCall sp_raw_skyline (dCons (dVar 0) dNil)) dNil))))
def m_tallest_order : FS := (dSeq2 (dExp (dCall sp_check_jets (dCons (dVar 0) dNil)))
  (dRet (dBlt gTuple (dCons (dLc (dSeq (dBlt gSortedX (dCons (dLc (dEnumT (dCons (dVar 0) dNil)) (bTup 2 (bCons (bName 2) (bCons (bName 3) bNil))) [2, 3] dYes (dTup (dCons (dOp subT (dCon (.int 0)) (dOp idxT (dVar 3) (dCon (.int 2)))) (dCons (dVar 2) dNil)))) dNil))) (bTup 2 (bCons (bName 1) (bCons (bName 2) bNil))) [1, 2] dYes (dVar 2)) dNil))))
def m_fewest_for : FS := (dSeq2 (dExp (dCall sp_check_jets (dCons (dVar 0) dNil)))
  (dSeq2 (dAsg 1 (dCall sp_heights_of (dCons (dVar 0) dNil)))
  (dSeq2 (dWeak [2] (dFor (dSeq (dCall sp_all_lots (dCons (dBlt gLen (dCons (dVar 0) dNil)) dNil))) (bName 2) [2] (dIf (dB (dOp eqT (dCall sp_heights_of (dCons (dLc (dSeq (dVar 2)) (bName 3) [3] dYes (dOp idxT (dVar 0) (dVar 3))) dNil)) (dVar 1))) (dRetV 2) dSkip)))
  (dRet (dCon .none)))))
def m_is_change : FS := (dSeq2 (dIf (dOr (dNot (dTru (dCall sp_is_tuple_of (dCons (dVar 0) (dCons (dCon (.int 2)) dNil))))) (dNot (dTru (dCall sp_is_within (dCons (dOp idxT (dVar 0) (dCon (.int 0))) (dCons (dCon (.int 0)) (dCons (dCon (.int (60))) dNil))))))) (dRet (dCon (.bool false))) dSkip)
  (dRet (dCall sp_is_within (dCons (dOp idxT (dVar 0) (dCon (.int 1))) (dCons (dCon (.int 0)) (dCons (dCon (.int (60))) dNil))))))
def m_do_change : FS := (dSeq2 (dAsg 1 (dCon (.int 0)))
  (dSeq2 (dWeak [2, 3] (dFor (dSeq (dVar 0)) (bTup 2 (bCons (bName 2) (bCons (bName 3) bNil))) [2, 3] (dSeq2 (dIf (dB (dOp eqT (dVar 3) (dVar 1))) (dRet (dCon (.bool false))) dSkip)
  (dAsg 1 (dVar 3)))))
  (dRet (dBlt gAll (dCons (dLc (dZip (dCons (dVar 0) (dCons (dSlc (dVar 0) (dPart (dCon (.int 1))) dNo) dNil))) (bTup 2 (bCons (bName 4) (bCons (bName 5) bNil))) [4, 5] dYes (dOp (ltT lt_) (dOp idxT (dVar 4) (dCon (.int 0))) (dOp idxT (dVar 5) (dCon (.int 0))))) dNil)))))
def m_is_skyline : FS := (dSeq2 (dIf (dOr (dNot (dTru (dIsa PyData.isTuple (dVar 0)))) (dNot (dTru (dBlt gAll (dCons (dLc (dSeq (dVar 0)) (bName 1) [1] dYes (dCall sp_is_change (dCons (dVar 1) dNil))) dNil))))) (dRet (dCon (.bool false))) dSkip)
  (dRet (dAndV (dCall sp_do_change (dCons (dVar 0) dNil)) (dOrV (dOp eqT (dBlt gLen (dCons (dVar 0) dNil)) (dCon (.int 0))) (dOp eqT (dOp idxT (dOp idxT (dVar 0) (dNeg (dCon (.int 1)))) (dCon (.int 1))) (dCon (.int 0)))))))
def m__law_some : FS := (dRet (dOp idxT (dVar 1) (dCall sp__law_draw (dCons (dVar 0) (dCons (dBlt gLen (dCons (dVar 1) dNil)) dNil)))))
def m__law_is_int : FS := (dRet (dAndV (dIsa PyData.isInt (dVar 0)) (dNotV (dIsa PyData.isBool (dVar 0)))))
def m__law_deep : FS := (dSeq2 (dAsg 1 (dCall sp__law_some (dCons (dVar 0) (dCons (dLst (dCons (dCon .none) (dCons (dCon (.str "?")) (dCons dDict0 dNil)))) dNil))))
  (dSeq2 (dWeak [2] (dFor (dRng1 (dCons (dOp addT (dCon (.int 1)) (dCall sp__law_draw (dCons (dVar 0) (dCons (dCon (.int 25)) dNil)))) dNil)) (bName 2) [2] (dAsg 1 (dOp idxT (dLst (dCons (dTup (dCons (dVar 1) dNil)) (dCons (dLst (dCons (dVar 1) dNil)) (dCons (dDisp1 (dCon (.int 0)) (dVar 1)) dNil)))) (dCall sp__law_draw (dCons (dVar 0) (dCons (dCon (.int 3)) dNil)))))))
  (dRetV 1)))
def m__law_jets : FS := (dSeq2 (dPar [2, 3, 4] (dCons (dCall sp__law_some (dCons (dVar 0) (dCons (dLst (dCons (dCon (.int 5)) (dCons (dCon (.int 12)) (dCons (dCon (.int 60)) dNil)))) dNil))) (dCons (dCall sp__law_some (dCons (dVar 0) (dCons (dLst (dCons (dCon (.int 3)) (dCons (dCon (.int 9)) (dCons (dCon (.int 60)) dNil)))) dNil))) (dCons (dLst dNil) dNil))))
  (dSeq2 (dWeak [5, 6] (dFor (dRng1 (dCons (dCall sp__law_draw (dCons (dVar 0) (dCons (dOp addT (dVar 1) (dCon (.int 1))) dNil))) dNil)) (bName 5) [5, 6] (dSeq2 (dAsg 6 (dCall sp__law_draw (dCons (dVar 0) (dCons (dVar 2) dNil))))
  (dApp 4 (dTup (dCons (dVar 6) (dCons (dOp addT (dOp addT (dVar 6) (dCon (.int 1))) (dCall sp__law_draw (dCons (dVar 0) (dCons (dOp subT (dVar 2) (dVar 6)) dNil)))) (dCons (dOp addT (dCon (.int 1)) (dCall sp__law_draw (dCons (dVar 0) (dCons (dVar 3) dNil)))) dNil))))))))
  (dRet (dBlt gTuple (dCons (dVar 4) dNil)))))
def m__law_heights : FS := (dRet (dLc (dRng1 (dCons (dCon (.int 61)) dNil)) (bName 1) [1] dYes (dBlt gMax (dCons (dOp addT (dLst (dCons (dCon (.int 0)) dNil)) (dLc (dSeq (dVar 0)) (bTup 3 (bCons (bName 2) (bCons (bName 3) (bCons (bName 4) bNil)))) [2, 3, 4] (dB (dChain (ltT le_) (ltT lt_) (dVar 2) (dVar 1) (dVar 3))) (dVar 4))) dNil))))
def m__law_skyline : FS := (dSeq2 (dAsg 1 (dOp addT (dLst (dCons (dCon (.int 0)) dNil)) (dCall sp__law_heights (dCons (dVar 0) dNil))))
  (dSeq2 (dAsg 2 (dLc (dRng1 (dCons (dCon (.int 61)) dNil)) (bName 3) [3] (dB (dOp neT (dOp idxT (dVar 1) (dOp addT (dVar 3) (dCon (.int 1)))) (dOp idxT (dVar 1) (dVar 3)))) (dTup (dCons (dVar 3) (dCons (dOp idxT (dVar 1) (dOp addT (dVar 3) (dCon (.int 1)))) dNil)))))
  (dRet (dBlt gTuple (dCons (dVar 2) dNil)))))
def m__law_no_jets : FS := (dSeq2 (dAsg 1 (dLst (dCons (dCon .none) (dCons (dCon (.int 0)) (dCons (dLst (dCons (dTup (dCons (dCon (.int 0)) (dCons (dCon (.int 1)) (dCons (dCon (.int 1)) dNil)))) dNil)) (dCons (dTup (dCons (dTup (dCons (dCon (.int 1)) (dCons (dCon (.int 1)) (dCons (dCon (.int 1)) dNil)))) dNil)) (dCons (dTup (dCons (dTup (dCons (dCon (.int 2)) (dCons (dCon (.int 1)) (dCons (dCon (.int 1)) dNil)))) dNil)) (dCons (dTup (dCons (dTup (dCons (dCon (.int 0)) (dCons (dCon (.int 1)) (dCons (dCon (.int 0)) dNil)))) dNil)) (dCons (dTup (dCons (dTup (dCons (dCon (.int 0)) (dCons (dCon (.int 61)) (dCons (dCon (.int 1)) dNil)))) dNil)) (dCons (dTup (dCons (dTup (dCons (dCon (.int 0)) (dCons (dCon (.int 1)) dNil))) dNil)) dNil))))))))))
  (dSeq2 (dAsg 1 (dOp addT (dVar 1) (dLst (dCons (dTup (dCons (dTup (dCons (dNeg (dCon (.int 1))) (dCons (dCon (.int 1)) (dCons (dCon (.int 1)) dNil)))) dNil)) (dCons (dTup (dCons (dCon (.int 0)) (dCons (dCon (.int 1)) (dCons (dCon (.int 1)) dNil)))) (dCons dDict0 dNil))))))
  (dSeq2 (dAsg 1 (dOp addT (dVar 1) (dLst (dCons (dTup (dCons (dTup (dCons (dCon (.bool true)) (dCons (dCon (.int 2)) (dCons (dCon (.int 1)) dNil)))) dNil)) (dCons (dTup (dCons (dTup (dCons (dCon (.int 0)) (dCons (dCon (.int 1)) (dCons (dCon .none) dNil)))) dNil)) (dCons (dOp mulU (dTup (dCons (dTup (dCons (dCon (.int 0)) (dCons (dCon (.int 1)) (dCons (dCon (.int 1)) dNil)))) dNil)) (dCon (.int 11))) (dCons (dTup (dCons (dLst (dCons (dCon (.int 0)) (dCons (dCon (.int 1)) (dCons (dCon (.int 1)) dNil)))) dNil)) (dCons (dCon (.str "?")) dNil))))))))
  (dRet (dCall sp__law_some (dCons (dVar 0) (dCons (dOp addT (dVar 1) (dLst (dCons (dCall sp__law_deep (dCons (dVar 0) dNil)) dNil))) dNil)))))))
def m__law_word (O : Outc → Prop) (f : Addr) : FS := (dSeq2 (dAsg 1 (dCon (.str "told")))
  (dSeq2 (dTryW excs 2 (fun x ea => (dSeq2 (dAsg 3 (dLst (dCons (dIsE 2 ea (decide (x = "NoJets"))) (dCons (dIsE 2 ea (decide (x = "NoPlace"))) dNil))))
  (dSeq2 (dAsg 1 (dCon (.str "other")))
  (dIf (dAnd (dB (dOp eqT (dMe isListT gCountL (dVar 3) (dCon (.bool true))) (dCon (.int 1)))) (dTru (dIsE 2 ea true))) (dAsg 1 (dOp idxT (dLst (dCons (dCon (.str "jets")) (dCons (dCon (.str "place")) dNil))) (dMe isListT gIndex (dVar 3) (dCon (.bool true))))) dSkip)))) O f)
  (dRetV 1)))
def m__law_fewest : FS := (dSeq2 (dPar [1, 2] (dCons (dLst (dCons (dTup dNil) dNil)) (dCons (dCall sp__law_skyline (dCons (dVar 0) dNil)) dNil)))
  (dSeq2 (dWeak [3, 4] (dFor (dRng1 (dCons (dBlt gLen (dCons (dVar 0) dNil)) dNil)) (bName 3) [3, 4] (dAsg 1 (dOp addT (dVar 1) (dLc (dSeq (dVar 1)) (bName 4) [4] dYes (dOp addT (dVar 4) (dTup (dCons (dVar 3) dNil))))))))
  (dSeq2 (dWeak [3, 4, 5] (dFor (dSeq (dBlt gSortedX (dCons (dLc (dSeq (dVar 1)) (bName 4) [4] dYes (dTup (dCons (dBlt gLen (dCons (dVar 4) dNil)) (dCons (dVar 4) dNil)))) dNil))) (bTup 2 (bCons (bName 5) (bCons (bName 4) bNil))) [3, 4, 5] (dIf (dB (dOp eqT (dCall sp__law_skyline (dCons (dBlt gTuple (dCons (dLc (dSeq (dVar 4)) (bName 3) [3] dYes (dOp idxT (dVar 0) (dVar 3))) dNil)) dNil)) (dVar 2))) (dRetV 4) dSkip)))
  (dRet (dCon .none)))))
def m__law_is_line : FS := (dSeq2 (dIf (dNot (dTru (dIsa PyData.isTuple (dVar 0)))) (dRet (dCon (.bool false))) dSkip)
  (dSeq2 (dPar [1, 2] (dCons (dCon (.int 0)) (dCons (dNeg (dCon (.int 1))) dNil)))
  (dSeq2 (dWeak [3] (dFor (dSeq (dVar 0)) (bName 3) [3] (dSeq2 (dIf (dOr (dNot (dTru (dIsa PyData.isTuple (dVar 3)))) (dOr (dB (dOp neT (dBlt gLen (dCons (dVar 3) dNil)) (dCon (.int 2)))) (dOr (dNot (dTru (dCall sp__law_is_int (dCons (dOp idxT (dVar 3) (dCon (.int 0))) dNil)))) (dNot (dTru (dCall sp__law_is_int (dCons (dOp idxT (dVar 3) (dCon (.int 1))) dNil))))))) (dRet (dCon (.bool false))) dSkip)
  (dSeq2 (dIf (dOr (dNot (dB (dChain (ltT lt_) (ltT le_) (dVar 2) (dOp idxT (dVar 3) (dCon (.int 0))) (dCon (.int 60))))) (dOr (dNot (dB (dChain (ltT le_) (ltT le_) (dCon (.int 0)) (dOp idxT (dVar 3) (dCon (.int 1))) (dCon (.int 60))))) (dB (dOp eqT (dOp idxT (dVar 3) (dCon (.int 1))) (dVar 1))))) (dRet (dCon (.bool false))) dSkip)
  (dUnp (dVar 3) (bTup 2 (bCons (bName 2) (bCons (bName 1) bNil))))))))
  (dRet (dOp eqT (dVar 1) (dCon (.int 0)))))))
def m__law_bent_s7 : FS := (dRet (dCall sp__law_some (dCons (dVar 0) (dCons (dOp addT (dVar 6) (dLst (dCons (dBlt gList (dCons (dVar 1) dNil)) (dCons (dOp addT (dVar 1) (dTup (dCons (dTup (dCons (dCon (.int 60)) (dCons (dCon (.int 0)) dNil))) dNil))) (dCons (dSlc (dVar 1) dNo (dPart (dNeg (dCon (.int 1))))) (dCons (dCon .none) (dCons (dCon (.int 0)) (dCons dDict0 (dCons (dCon (.str "?")) (dCons (dCall sp__law_deep (dCons (dVar 0) dNil)) dNil)))))))))) dNil))))
def m__law_bent_s6 : FS := (dSeq2 (dAsg 6 (dOp addT (dVar 6) (dLst (dCons (dOp addT (dSlc (dVar 1) dNo (dPart (dVar 2))) (dSlc (dVar 1) (dPart (dOp addT (dVar 2) (dCon (.int 1)))) dNo)) (dCons (dRev (dVar 1)) dNil))))) m__law_bent_s7)
def m__law_bent_s5 : FS := (dSeq2 (dAsg 6 (dLst (dCons (dVar 1) (dCons (dOp addT (dOp addT (dSlc (dVar 1) dNo (dPart (dVar 2))) (dTup (dCons (dVar 5) dNil))) (dSlc (dVar 1) (dPart (dOp addT (dVar 2) (dCon (.int 1)))) dNo)) (dCons (dOp addT (dOp addT (dSlc (dVar 1) dNo (dPart (dVar 2))) (dTup (dCons (dVar 5) dNil))) (dSlc (dVar 1) (dPart (dVar 2)) dNo)) dNil))))) m__law_bent_s6)
def m__law_bent_s4 : FS := (dSeq2 (dAsg 5 (dCall sp__law_some (dCons (dVar 0) (dCons (dOp addT (dVar 4) (dLst (dCons (dTup (dCons (dOp idxT (dVar 3) (dCon (.int 0))) (dCons (dCon (.int 0)) dNil))) (dCons (dRev (dVar 3)) (dCons (dCon .none) (dCons (dTup (dCons (dCon (.int 0)) (dCons (dCon (.int 0)) dNil))) (dCons (dTup (dCons (dNeg (dCon (.int 1))) (dCons (dCon (.int 3)) dNil))) dNil))))))) dNil)))) m__law_bent_s5)
def m__law_bent_s3 : FS := (dSeq2 (dAsg 4 (dOp addT (dVar 4) (dLst (dCons (dTup (dCons (dOp idxT (dVar 3) (dCon (.int 0))) (dCons (dCon (.bool true)) dNil))) (dCons (dBlt gList (dCons (dVar 3) dNil)) (dCons (dSlc (dVar 3) dNo (dPart (dCon (.int 1)))) dNil)))))) m__law_bent_s4)
def m__law_bent_s2 : FS := (dSeq2 (dAsg 4 (dLst (dCons (dTup (dCons (dOp idxT (dVar 3) (dCon (.int 0))) (dCons (dOp addT (dOp idxT (dVar 3) (dCon (.int 1))) (dCon (.int 1))) dNil))) (dCons (dTup (dCons (dOp addT (dOp idxT (dVar 3) (dCon (.int 0))) (dCon (.int 1))) (dCons (dOp idxT (dVar 3) (dCon (.int 1))) dNil))) (dCons (dTup (dCons (dOp idxT (dVar 3) (dCon (.int 0))) (dCons (dCon (.int 61)) dNil))) (dCons (dTup (dCons (dCon (.int 61)) (dCons (dOp idxT (dVar 3) (dCon (.int 1))) dNil))) dNil)))))) m__law_bent_s3)
def m__law_bent_s1 : FS := (dSeq2 (dAsg 3 (dIte (dB (dOp (ltT lt_) (dVar 2) (dBlt gLen (dCons (dVar 1) dNil)))) (dOp idxT (dVar 1) (dVar 2)) (dTup (dCons (dCon (.int 1)) (dCons (dCon (.int 0)) dNil))))) m__law_bent_s2)
def m__law_bent : FS := (dSeq2 (dAsg 2 (dCall sp__law_draw (dCons (dVar 0) (dCons (dOp addT (dBlt gLen (dCons (dVar 1) dNil)) (dCon (.int 1))) dNil)))) m__law_bent_s1)
def m__law_is_right_s6 : FS := (dRet (dCon (.bool true)))
def m__law_is_right_s5 : FS := (dSeq2 (dWeak [8, 9] (dFor (dRng1 (dCons (dCon (.int 7)) dNil)) (bName 8) [8, 9] (dSeq2 (dAsg 9 (dCall sp__law_bent (dCons (dVar 0) (dCons (dVar 7) dNil))))
  (dIf (dB (dOp neT (dBlt gReprE (dCons (dCall sp_is_skyline (dCons (dVar 9) dNil)) dNil)) (dBlt gReprE (dCons (dCall sp__law_is_line (dCons (dVar 9) dNil)) dNil)))) (dRet (dCon (.bool false))) dSkip)))) m__law_is_right_s6)
def m__law_is_right_s4 : FS := (dSeq2 (dIf (dOr (dB (dOp neT (dCall sp_skyline (dCons (dBlt gTuple (dCons (dLc (dSeq (dVar 6)) (bName 4) [4] dYes (dOp idxT (dVar 1) (dVar 4))) dNil)) dNil)) (dVar 7))) (dB (dOp (isT true) (dCall sp_is_skyline (dCons (dVar 7) dNil)) (dCon (.bool true))))) (dRet (dCon (.bool false))) dSkip) m__law_is_right_s5)
def m__law_is_right_s3 : FS := (dSeq2 (dAsg 7 (dCall sp_skyline (dCons (dVar 1) dNil))) m__law_is_right_s4)
def m__law_is_right_s2 : FS := (dSeq2 (dIf (dB (dOp neT (dBlt gReprE (dCons (dLst (dCons (dCall sp_tallest_order (dCons (dVar 1) dNil)) (dCons (dCall sp_fewest_for (dCons (dVar 1) dNil)) (dCons (dCall sp_fewest_for (dCons (dVar 1) dNil)) dNil)))) dNil)) (dBlt gReprE (dCons (dLst (dCons (dVar 2) (dCons (dVar 6) (dCons (dVar 6) dNil)))) dNil)))) (dRet (dCon (.bool false))) dSkip) m__law_is_right_s3)
def m__law_is_right_s1 : FS := (dSeq2 (dAsg 6 (dCall sp__law_fewest (dCons (dVar 1) dNil))) m__law_is_right_s2)
def m__law_is_right : FS := (dSeq2 (dAsg 2 (dBlt gTuple (dCons (dLc (dSeq (dBlt gSortedX (dCons (dLc (dEnumT (dCons (dVar 1) dNil)) (bTup 2 (bCons (bName 4) (bCons (bName 5) bNil))) [4, 5] dYes (dTup (dCons (dOp subT (dCon (.int 0)) (dOp idxT (dVar 5) (dCon (.int 2)))) (dCons (dVar 4) dNil)))) dNil))) (bTup 2 (bCons (bName 3) (bCons (bName 4) bNil))) [3, 4] dYes (dVar 4)) dNil))) m__law_is_right_s1)
def m__law_are_refused : FS := (dSeq2 (dPar [1, 2] (dCons (dCall sp__law_no_jets (dCons (dVar 0) dNil)) (dCons (dCall sp__law_some (dCons (dVar 0) (dCons (dLst (dCons (dNeg (dCon (.int 1))) (dCons (dCon (.int 1000)) (dCons (dCon .none) (dCons (dCon (.bool true)) (dCons (dCon (.str "?")) (dCons (dTup (dCons (dCon (.int 0)) dNil)) (dCons (dCall sp__law_deep (dCons (dVar 0) dNil)) dNil)))))))) dNil))) dNil)))
  (dSeq2 (dAsg 3 (dLcFn ["skyline", "seen_of", "hidden_jets", "area", "gaps"] 4 (dWord sp__law_word (fun _ _ => False) (xCallV [("skyline", spx_skyline), ("seen_of", spx_seen_of), ("hidden_jets", spx_hidden_jets), ("area", spx_area), ("gaps", spx_gaps)] 4 (dCons (dVar 1) dNil)))))
  (dSeq2 (dAsg 3 (dOp addT (dVar 3) (dLcFn ["tallest_order", "fewest_for"] 4 (dWord sp__law_word (fun _ _ => False) (xCallV [("tallest_order", spx_tallest_order), ("fewest_for", spx_fewest_for)] 4 (dCons (dVar 1) dNil))))))
  (dSeq2 (dApp 3 (dWord sp__law_word (fun _ _ => False) (xCall spx_highest_at (dCons (dVar 1) (dCons (dVar 2) dNil)))))
  (dSeq2 (dApp 3 (dWord sp__law_word (fun _ _ => False) (xCall spx_highest_at (dCons (dTup (dCons (dTup (dCons (dCon (.int 0)) (dCons (dCon (.int 1)) (dCons (dCon (.int 1)) dNil)))) dNil)) (dCons (dVar 2) dNil)))))
  (dRet (dOp eqT (dVar 3) (dOp addT (dOp mulT (dLst (dCons (dCon (.str "jets")) dNil)) (dCon (.int 8))) (dLst (dCons (dCon (.str "place")) dNil))))))))))
def m_law_s6 : FS := (dRet (dCon (.bool true)))
def m_law_s5 : FS := (dSeq2 (dWeak [3] (dFor (dRng1 (dCons (dCon (.int 6)) dNil)) (bName 3) [3] (dIf (dOr (dNot (dTru (dCall sp__law_is_right (dCons (dVar 1) (dCons (dCall sp__law_jets (dCons (dVar 1) (dCons (dCon (.int 7)) dNil))) dNil))))) (dNot (dTru (dCall sp__law_are_refused (dCons (dVar 1) dNil))))) (dRet (dCon (.bool false))) dSkip))) m_law_s6)
def m_law_s4 : FS := (dSeq2 (dIf (dOr (dB (dOp (isT true) (dCall sp_is_skyline (dCons (dTup (dCons (dTup (dCons (dCon (.int 3)) (dCons (dCon (.int 0)) dNil))) dNil)) dNil)) (dCon (.bool false)))) (dB (dOp (isT true) (dCall sp_is_skyline (dCons (dTup (dCons (dTup (dCons (dCon (.int 0)) (dCons (dCon (.int 2)) dNil))) dNil)) dNil)) (dCon (.bool false))))) (dRet (dCon (.bool false))) dSkip) m_law_s5)
def m_law_s3 : FS := (dSeq2 (dIf (dOr (dB (dOp (isT true) (dCall sp_is_skyline (dCons (dTup (dCons (dTup (dCons (dCon (.int 0)) (dCons (dCon (.int 2)) dNil))) (dCons (dTup (dCons (dCon (.int 1)) (dCons (dCon (.int 0)) dNil))) dNil))) dNil)) (dCon (.bool true)))) (dB (dOp (isT true) (dCall sp_is_skyline (dCons (dTup (dCons (dTup (dCons (dCon (.int 0)) (dCons (dCon (.int 2)) dNil))) (dCons (dTup (dCons (dCon (.int 1)) (dCons (dCon (.int 2)) dNil))) (dCons (dTup (dCons (dCon (.int 2)) (dCons (dCon (.int 0)) dNil))) dNil)))) dNil)) (dCon (.bool false))))) (dRet (dCon (.bool false))) dSkip) m_law_s4)
def m_law_s2 : FS := (dSeq2 (dIf (dOr (dB (dOp neT (dCall sp_fewest_for (dCons (dTup dNil) dNil)) (dTup dNil))) (dOr (dB (dOp neT (dCall sp_tallest_order (dCons (dTup dNil) dNil)) (dTup dNil))) (dB (dOp (isT true) (dCall sp_is_skyline (dCons (dTup dNil) dNil)) (dCon (.bool true)))))) (dRet (dCon (.bool false))) dSkip) m_law_s3)
def m_law_s1 : FS := (dSeq2 (dIf (dOr (dB (dOp neT (dCall sp_tallest_order (dCons (dVar 2) dNil)) (dTup (dCons (dCon (.int 0)) (dCons (dCon (.int 2)) (dCons (dCon (.int 3)) (dCons (dCon (.int 1)) dNil))))))) (dB (dOp neT (dCall sp_fewest_for (dCons (dVar 2) dNil)) (dTup (dCons (dCon (.int 0)) (dCons (dCon (.int 3)) dNil)))))) (dRet (dCon (.bool false))) dSkip) m_law_s2)
def m_law : FS := (dSeq2 (dAsg 2 (dTup (dCons (dTup (dCons (dCon (.int 0)) (dCons (dCon (.int 3)) (dCons (dCon (.int 2)) dNil)))) (dCons (dTup (dCons (dCon (.int 1)) (dCons (dCon (.int 2)) (dCons (dCon (.int 1)) dNil)))) (dCons (dTup (dCons (dCon (.int 0)) (dCons (dCon (.int 2)) (dCons (dCon (.int 2)) dNil)))) (dCons (dTup (dCons (dCon (.int 2)) (dCons (dCon (.int 4)) (dCons (dCon (.int 2)) dNil)))) dNil)))))) m_law_s1)
def xm_check_jets : FX := (xIf (dOr (dNot (dTru (dIsa PyData.isTuple (dVar 0)))) (dOr (dB (dOp (ltT gt_) (dBlt gLen (dCons (dVar 0) dNil)) (dCon (.int (10))))) (dNot (dTru (dBlt gAll (dCons (dLc (dSeq (dVar 0)) (bName 1) [1] dYes (dCall sp_is_jet (dCons (dVar 1) dNil))) dNil)))))) (xRaise "NoJets") xNo)
def xm_skyline : FX := (xCall spx_check_jets (dCons (dVar 0) dNil))
def xm_seen_of : FX := (xCall spx_check_jets (dCons (dVar 0) dNil))
def xm_hidden_jets : FX := (xCall spx_check_jets (dCons (dVar 0) dNil))
def xm_area : FX := (xCall spx_check_jets (dCons (dVar 0) dNil))
def xm_highest_at : FX := (xOr (xCall spx_check_jets (dCons (dVar 0) dNil)) (xThen (dExp (dCall sp_check_jets (dCons (dVar 0) dNil)))
  (xIf (dNot (dTru (dCall sp_is_within (dCons (dVar 1) (dCons (dCon (.int 0)) (dCons (dOp subT (dCon (.int (60))) (dCon (.int 1))) dNil)))))) (xRaise "NoPlace") xNo)))
def xm_gaps : FX := (xCall spx_check_jets (dCons (dVar 0) dNil))
def xm_tallest_order : FX := (xCall spx_check_jets (dCons (dVar 0) dNil))
def xm_fewest_for : FX := (xCall spx_check_jets (dCons (dVar 0) dNil))
end DL.K41

namespace DL.K41
open PySem PySem.Spec PyProof.Rows L2 PySem.W
theorem meets_is_integer : Meets 1 m_is_integer sp_is_integer := gmeets_int
theorem meets_is_within : Meets 3 m_is_within sp_is_within := gmeets_within
theorem meets_is_tuple_of : Meets 2 m_is_tuple_of sp_is_tuple_of := gmeets_tupof
theorem meets_lots_of : Meets 8 m_lots_of sp_lots_of := cmeets_lots
theorem meets__law_some : Meets 2 m__law_some sp__law_some := cmeets_some
theorem meets__law_is_int : Meets 1 m__law_is_int sp__law_is_int := gmeets_int
theorem meets__law_deep : Meets 3 m__law_deep sp__law_deep := gmeets_deep
theorem meets__law_word : MeetsW 4 m__law_word sp__law_word := fun f R => by
  unfold m__law_word
  rw [show gam0 4 [.raw (.ref f)] = [.pl (.raw (.ref f)), .non, .non, .non] from rfl]
  simp [sp__law_word, thenK_ap]
  intro x hx h
  refine ⟨hx, ?_⟩
  have : x = "NoJets" ∨ x = "NoPlace" := by simpa [excs] using hx
  rcases this with rfl | rfl
  · intro a
    refine flags_count [true, false] rfl ?_
    simp
    refine flags_index [true, false] rfl (by simp) (by simp) ?_
    rw [show wordX "NoJets" = "jets" from by decide] at h
    simpa [ixO] using h
  · intro a
    refine flags_count [false, true] rfl ?_
    simp
    refine flags_index [false, true] rfl (by simp) (by simp) ?_
    rw [show wordX "NoPlace" = "place" from by decide] at h
    simpa [ixO] using h
theorem jD_inj {a b : Jt} (h : jD a = jD b) : a = b := by
  unfold jD at h
  cases a
  cases b
  simp at h
  simp [h]
theorem jDs_inj : ∀ {a b : List Jt}, a.map jD = b.map jD → a = b
  | [], [], _ => rfl
  | [], _ :: _, h => by cases h
  | _ :: _, [], h => by cases h
  | x :: r, y :: s, h => by
    rw [List.map_cons, List.map_cons] at h
    injection h with h1 h2
    rw [jD_inj h1, jDs_inj h2]
def okL (J : List Jt) : Prop := J.length ≤ 10 ∧ ∀ j ∈ J, okJ j
theorem isJets_ev {J : List Jt} {q : List Jt → Prop} : isJets (vT (J.map jD)) q = (okL J ∧ q J) := by
  unfold isJets okL
  refine propext ⟨?_, fun h => ⟨J, rfl, h.1.1, h.1.2, h.2⟩⟩
  rintro ⟨J', e, h⟩
  have e' : J.map jD = J'.map jD := by simpa using e
  rw [jDs_inj e']
  exact ⟨⟨h.1, h.2.1⟩, h.2.2⟩
theorem isJets_T {J : List Jt} {q : List Jt → Prop} (h1 : J.length ≤ 10) (h2 : ∀ j ∈ J, okJ j) (h : q J) : isJets (vT (J.map jD)) q := ⟨J, rfl, h1, h2, h⟩
theorem meets_height_at : Meets 2 m_height_at sp_height_at := meets2 fun a b Q ⟨j, p, ha, hb, q⟩ => by
  subst ha hb
  simp [m_height_at, gam0, thenK_ap, jD]
  unfold hat at q
  grind
theorem peaks_s (J : List Jt) (n : Nat) : peaks J (n + 1) = peaks J n ++ [peak J n] := tab_s
theorem peaks_map (J : List Jt) (n : Nat) : (peaks J n).map dI = tab (fun i => dI (peak J (i : Nat))) n := tab_map _
@[simp] theorem peaks_len (J : List Jt) (n : Nat) : (peaks J n).length = n := tab_len
theorem hat_in {j : Jt} (h : okJ j) (p : Int) : 0 ≤ hat j p ∧ hat j p ≤ 60 := by
  unfold hat
  grind [okJ]
theorem peakF_cons (j : Jt) (J : List Jt) (b p : Int) : peakF (j :: J) b p = peakF J (max b (hat j p)) p := rfl
theorem peakF_in : ∀ (J : List Jt) (b p : Int), (∀ j ∈ J, okJ j) → b ≤ 60 → b ≤ peakF J b p ∧ peakF J b p ≤ 60
  | [], b, p, _, hb => ⟨Int.le_refl _, hb⟩
  | j :: J, b, p, h, hb => by
    have h1 := hat_in (h j (List.mem_cons_self ..)) p
    have := peakF_in J (max b (hat j p)) p (fun j hj => h j (List.mem_cons_of_mem _ hj)) (by omega)
    rw [peakF_cons]
    omega
theorem peak_in {J : List Jt} (h : ∀ j ∈ J, okJ j) (p : Int) : 0 ≤ peak J p ∧ peak J p ≤ 60 := peakF_in J 0 p h (by decide)
theorem peak60 : ∀ {J : List Jt}, (∀ j ∈ J, okJ j) → peak J 60 = 0
  | [], _ => rfl
  | j :: J, h => by
    have h1 : hat j 60 = 0 := by
      have := h j (List.mem_cons_self ..)
      unfold hat
      grind [okJ]
    have := peak60 fun j hj => h j (List.mem_cons_of_mem _ hj)
    rw [peak, peakF_cons, h1]
    exact this
theorem jetsL_ev {J : List Jt} {q : List Jt → Prop} : isJetsL (vT (J.map jD)) q = (okL J ∧ q J) := by
  refine propext ⟨fun ⟨J', e, h1, h2, h⟩ => ?_, fun ⟨⟨h1, h2⟩, h⟩ => ⟨J, .inl rfl, h1, h2, h⟩⟩
  rcases e with e | e
  · injection e with e
    injection e with e
    cases jDs_inj e
    exact ⟨⟨h1, h2⟩, h⟩
  · injection e with e
    cases e
theorem jetsL_evL {J : List Jt} {q : List Jt → Prop} : isJetsL (vL (J.map jD)) q = (okL J ∧ q J) := by
  refine propext ⟨fun ⟨J', e, h1, h2, h⟩ => ?_, fun ⟨⟨h1, h2⟩, h⟩ => ⟨J, .inr rfl, h1, h2, h⟩⟩
  rcases e with e | e
  · injection e with e
    cases e
  · injection e with e
    injection e with e
    cases jDs_inj e
    exact ⟨⟨h1, h2⟩, h⟩
theorem meets_heights_of : Meets 3 m_heights_of sp_heights_of := meets1 fun a Q ⟨J, ha, hl, h, q⟩ => by
  unfold m_heights_of
  rcases ha with rfl | rfl
  all_goals simp [gam0, thenK_ap]
  all_goals
    refine lcMr (fun i => dI (peak J i)) (by decide) (fun i hi k1 hk1 => ?_) ?_
    · simp
      refine lcM jD (fun j => dI (hat j i)) J (by omega) (fun j hj k2 hk2 => ?_) ?_
      · simp [sp_height_at]
        exact ⟨j, rfl, hk2⟩
      · rw [add_ll rfl rfl (by simp; omega), onS_s]
        refine gMax_ints (n := 0) (ns := J.map fun j => hat j i) rfl (by simp) ?_
        exact hk1
    · rw [← peaks_map]
      exact q
theorem meets_raw_skyline : Meets 5 m_raw_skyline sp_raw_skyline := meets1 fun a Q ⟨J, ha, hl, h, q⟩ => by
  subst ha
  simp [m_raw_skyline, gam0, thenK_ap, sp_heights_of]
  rw [jetsL_ev]
  refine ⟨⟨hl, h⟩, ?_⟩
  have e : (peaks J 60).map dI ++ [dI 0] = (peaks J 61).map dI := by
    rw [peaks_s J 60, List.map_append]
    have := peak60 h
    simp only [List.map_cons, List.map_nil]
    rw [show ((60 : Nat) : Int) = 60 from rfl, this]
  rw [e]
  refine forE dI (peaks J 61) (fun k r γ => ∃ (out : List PI) (last : Int), γ = [.pl (vT (J.map jD)), .ol (out.map pD), .pl (vI last), .non, .non] ∧ out ++ sk k last r = sky J ∧ out.length ≤ k ∧ k + r.length = 61) ⟨[], 0, rfl, by rw [sky, List.nil_append], Nat.zero_le _, by simp⟩ ?_ ?_
  · rintro k x r γ ⟨out, last, rfl, h1, h2, h3⟩
    refine ⟨_, rfl, fun K' nx ct bk rt => ?_⟩
    rw [List.length_cons] at h3
    rw [sk] at h1
    simp
    by_cases hx : x = last
    · rw [if_pos hx] at h1
      simp [hx, thenK_ap]
      subst hx
      exact nx _ ⟨out, x, rfl, h1, by omega, by omega⟩
    · rw [if_neg hx] at h1
      simp [hx, thenK_ap]
      refine ⟨Nat.lt_of_le_of_lt (by omega) szl, nx _ ⟨out ++ [((k : Int), x)], x, ?_, by rw [List.append_assoc]; exact h1, by simp; omega, by omega⟩⟩
      simp [pD]
      rfl
  · rintro k γ ⟨out, last, rfl, h1, h2, h3⟩
    rw [sk, List.append_nil] at h1
    subst h1
    simp [thenK_ap]
    exact q
theorem meets_skyline : Meets 1 m_skyline sp_skyline := meets1 fun a Q ⟨J, ha, hl, h, q⟩ => by
  subst ha
  simp [m_skyline, gam0, thenK_ap, sp_check_jets, sp_raw_skyline]
  exact isJets_T hl h (isJets_T hl h q)
theorem jet_B {j : Jt} (h : okJ j) : isJetB (jD j) = true := by
  obtain ⟨⟨h1, h2, h3⟩, h4, h5⟩ := h
  show (((decide (0 ≤ j.l) && decide (j.l ≤ 60)) && (decide (0 ≤ j.r) && decide (j.r ≤ 60))) && (decide (j.l < j.r) && (decide (1 ≤ j.h) && decide (j.h ≤ 60)))) = true
  simp
  omega
theorem meets_is_jet : Meets 2 m_is_jet sp_is_jet := meets1 fun a Q ⟨d, ha, hc, q⟩ => by
  subst ha
  have no : ∀ {d : D}, (∀ l r h : Int, d ≠ .tuple [.int l, .int r, .int h]) → isJetB d = false := fun {d} h => by
    unfold isJetB
    split
    · rename_i l r h'; exact absurd rfl (h l r h')
    · rfl
  cases d with
  | tuple xs =>
    match xs with
    | [x, y, z] =>
      simp [m_is_jet, gam0, thenK_ap, gsp_tupof, tupN]
      refine allD (inD 0 60) [x, y] (by simp) (fun z hz k1 hk1 => ?_) ?_
      · simp [gsp_within]
        exact hk1
      · simp
        by_cases e : inD 0 60 x = true ∧ inD 0 60 y = true
        · rw [if_pos e]
          obtain ⟨l, rfl, l0, l1⟩ := in_int e.1
          obtain ⟨r, rfl, r0, r1⟩ := in_int e.2
          simp
          by_cases e2 : l < r
          · rw [if_pos e2]
            simp [gsp_within]
            cases z with
            | int h => simpa [isJetB, l0, l1, r0, r1, e2] using q
            | _ => exact q
          · rw [if_neg e2]
            have : isJetB (.tuple [.int l, .int r, z]) = false := by
              unfold isJetB
              split
              · rename_i l' r' h' e3
                cases e3
                simp [e2]
              · rfl
            rw [this] at q
            exact q
        · rw [if_neg e]
          have : isJetB (.tuple [x, y, z]) = false := by
            unfold isJetB
            split
            · rename_i l' r' h' e3
              cases e3
              simp at e
              cases c : ((((decide (0 ≤ l') && decide (l' ≤ 60)) && (decide (0 ≤ r') && decide (r' ≤ 60))) && (decide (l' < r') && (decide (1 ≤ h') && decide (h' ≤ 60))))) with
              | false => rfl
              | true =>
                simp at c
                omega
            · rfl
          rw [this] at q
          exact q
    | [] => simpa [m_is_jet, gam0, thenK_ap, gsp_tupof, tupN, isJetB] using q
    | [x] => simpa [m_is_jet, gam0, thenK_ap, gsp_tupof, tupN, isJetB] using q
    | [x, y] => simpa [m_is_jet, gam0, thenK_ap, gsp_tupof, tupN, isJetB] using q
    | x :: y :: z :: w :: r =>
      have e' : ¬ (((x :: y :: z :: w :: r).length : Nat) : Int) = 3 := by simp only [List.length_cons]; omega
      have e3 : tupN 3 (.tuple (x :: y :: z :: w :: r)) = false := by
        show decide ((((x :: y :: z :: w :: r).length : Nat) : Int) = 3) = false
        exact decide_eq_false e'
      simp [m_is_jet, gam0, thenK_ap, gsp_tupof, e3]
      rw [no (by intro l r h e; cases e)] at q
      exact q
  | _ => simp [m_is_jet, gam0, thenK_ap, gsp_tupof, tupN]; exact q
theorem meets_check_jets : Meets 2 m_check_jets sp_check_jets := meets1 fun a Q ⟨J, ha, hl, h, q⟩ => by
  subst ha
  have i2 : ¬ (10 : Int) < J.length := by omega
  simp [m_check_jets, gam0, thenK_ap, i2]
  refine allT jD J (by omega) (fun s hs' k1 hk1 => ?_) ?_
  · simp [sp_is_jet]
    refine ⟨by show 4 ≤ 1000; decide, ?_⟩
    rw [jet_B (h s hs')]
    exact hk1
  · simp
    exact q
theorem meetsx_check_jets : MeetsX 2 xm_check_jets spx_check_jets := meetsx1 fun a X ⟨d, ha, hbad, hc, q⟩ => by
  subst ha
  unfold xm_check_jets
  cases d with
  | tuple xs =>
    obtain ⟨h1, h2⟩ := cnt_t hc
    have hbad : (decide (xs.length ≤ 10) && xs.all isJetB) = false := hbad
    have key : ¬ (10 : Int) < xs.length → xs.all isJetB = false := fun z1 => by
      rw [show decide (xs.length ≤ 10) = true by simp; omega] at hbad
      exact hbad
    simp [gam0, thenK_ap]
    split
    · exact q
    · rename_i z1
      refine allD isJetB xs (by omega) (fun x hx k1 hk1 => ?_) ?_
      · simp [sp_is_jet]
        exact ⟨h2 x hx, hk1⟩
      · rw [key z1]
        exact ⟨rfl, q⟩
  | _ => simp [gam0]; exact q
theorem meetsx_area : MeetsX 1 xm_area spx_area := meetsx1 fun a X ⟨d, ha, h⟩ => by
  subst ha
  simp [xm_area, gam0, xJ]
  exact h
theorem meetsx_gaps : MeetsX 1 xm_gaps spx_gaps := meetsx1 fun a X ⟨d, ha, h⟩ => by
  subst ha
  simp [xm_gaps, gam0, xJ]
  exact h
theorem meetsx_fewest_for : MeetsX 4 xm_fewest_for spx_fewest_for := meetsx1 fun a X ⟨d, ha, h⟩ => by
  subst ha
  simp [xm_fewest_for, gam0, xJ]
  exact h
theorem meetsx_hidden_jets : MeetsX 3 xm_hidden_jets spx_hidden_jets := meetsx1 fun a X ⟨d, ha, h⟩ => by
  subst ha
  simp [xm_hidden_jets, gam0, xJ]
  exact h
theorem meetsx_seen_of : MeetsX 1 xm_seen_of spx_seen_of := meetsx1 fun a X ⟨d, ha, h⟩ => by
  subst ha
  simp [xm_seen_of, gam0, xJ]
  exact h
theorem meetsx_skyline : MeetsX 1 xm_skyline spx_skyline := meetsx1 fun a X ⟨d, ha, h⟩ => by
  subst ha
  simp [xm_skyline, gam0, xJ]
  exact h
theorem meetsx_tallest_order : MeetsX 4 xm_tallest_order spx_tallest_order := meetsx1 fun a X ⟨d, ha, h⟩ => by
  subst ha
  simp [xm_tallest_order, gam0, xJ]
  exact h
theorem meetsx_highest_at : MeetsX 2 xm_highest_at spx_highest_at := meetsx2 fun a b X ⟨⟨e, hb⟩, h⟩ => by
  subst hb
  unfold xm_highest_at
  rcases h with ⟨d, ha, h⟩ | ⟨J, ha, h1, h2, e', he, h3, q⟩
  · subst ha
    simp [gam0, xJ]
    exact .inl h
  · subst ha
    cases he
    simp [gam0, sp_check_jets, gsp_within]
    exact .inr (isJets_T h1 h2 ⟨h3, q⟩)
theorem ch_of {d : D} (h : isChB d = true) : d = pD (chOf d) ∧ (0 ≤ (chOf d).1 ∧ (chOf d).1 ≤ 60) ∧ 0 ≤ (chOf d).2 ∧ (chOf d).2 ≤ 60 := by
  unfold isChB at h
  split at h
  · rename_i p h'
    simp at h
    exact ⟨rfl, by show 0 ≤ p ∧ p ≤ 60; omega, by show 0 ≤ h' ∧ h' ≤ 60; omega⟩
  · cases h
theorem chs_of {xs : List D} (h : xs.all isChB = true) : xs = (xs.map chOf).map pD := by
  rw [List.all_eq_true] at h
  rw [List.map_map]
  conv => lhs; rw [← List.map_id xs]
  exact List.map_congr_left fun d hd => (ch_of (h d hd)).1
theorem meets_is_change : Meets 1 m_is_change sp_is_change := meets1 fun a Q ⟨d, ha, hc, q⟩ => by
  subst ha
  by_cases e2 : tupN 2 d = true
  · obtain ⟨x, y, rfl⟩ := tup_2 e2
    simp [m_is_change, gam0, thenK_ap, gsp_tupof, gsp_within]
    cases x with
    | int p =>
      by_cases e : 0 ≤ p ∧ p ≤ 60
      · simp [e]
        cases y with
        | int h => simpa [isChB, e] using q
        | _ => exact q
      · have : isChB (.tuple [.int p, y]) = false := by
          unfold isChB
          split
          · rename_i p' h' e3
            cases e3
            have z : ¬ (0 ≤ p ∧ p ≤ 60) := e
            by_cases z1 : 0 ≤ p
            · have : ¬ p ≤ 60 := fun z2 => z ⟨z1, z2⟩
              simp [this]
            · simp [z1]
          · rfl
        rw [this] at q
        simp
        rw [if_neg e]
        exact q
    | _ => exact q
  · have : isChB d = false := by
      unfold isChB
      split
      · exact absurd rfl e2
      · rfl
    replace q : Q (vB (isChB d)) := q
    rw [this] at q
    simp [m_is_change, gam0, thenK_ap, gsp_tupof, e2]
    exact q
theorem meets_do_change : Meets 6 m_do_change sp_do_change := meets1 fun a Q ⟨C, ha, hl, q⟩ => by
  subst ha
  refine Eq.mp (thenK_ap (g := m_do_change) (K := kTo Q)) ?_
  unfold m_do_change
  refine step fun k hk => ?_
  simp [gam0]
  subst hk
  refine step fun k hk => ?_
  simp
  refine forS pD C (fun r γ => ∃ l s2 s3, (altB l r = altB 0 C) ∧ γ = [.pl (vT (C.map pD)), .pl (vI l), s2, s3, .non, .non]) ⟨0, _, _, rfl, rfl⟩ ?_ ?_
  · rintro x r γ ⟨l, s2, s3, he, rfl⟩
    refine ⟨_, rfl, fun K' nx ct bk rt => ?_⟩
    refine step fun k2 hk2 => ?_
    simp
    rw [altB] at he
    by_cases e : x.2 = l
    · rw [if_pos e]
      simp [e] at he
      refine rt _ ?_
      rw [he] at q
      exact q
    · rw [if_neg e]
      simp [e] at he
      subst hk2
      simp [thenK_ap]
      exact nx _ ⟨_, _, _, he, rfl⟩
  · rintro γ ⟨l, s2, s3, he, rfl⟩
    rw [show altB l [] = true from rfl] at he
    rw [← he] at q
    subst hk
    rw [show vT (C.map pD) = RV.d (tpD pD C) from rfl]
    simp [thenK_ap]
    refine allM (p2 pD pD) (fun q => decide (q.1.1 < q.2.1)) (C.zip C.tail) (by simp; omega) (fun x hx k1 hk1 => ?_) ?_
    · simp
      exact hk1
    · exact q
theorem meets_is_skyline : Meets 2 m_is_skyline sp_is_skyline := meets1 fun a Q ⟨d, ha, hc, q⟩ => by
  subst ha
  refine Eq.mp (thenK_ap (g := m_is_skyline) (K := kTo Q)) ?_
  unfold m_is_skyline
  refine step fun k hk => ?_
  simp [gam0]
  cases d with
  | tuple xs =>
    obtain ⟨h1, h2⟩ := cnt_t hc
    simp
    refine allD isChB xs (by omega) (fun x hx k1 hk1 => ?_) ?_
    · simp [sp_is_change]
      exact ⟨h2 x hx, hk1⟩
    · simp
      have q : Q (vB (xs.all isChB && ((altB 0 (xs.map chOf) && ascB (xs.map chOf)) && endB (xs.map chOf)))) := q
      split
      · rename_i e
        have e' : xs.all isChB = true := List.all_eq_true.mpr e
        rw [e'] at q
        have ex := chs_of e'
        obtain ⟨C, hC⟩ : ∃ C, C = xs.map chOf := ⟨_, rfl⟩
        rw [← hC] at q ex
        have hCl : C.length ≤ 1000 := by rw [hC, List.length_map]; exact h1
        rw [ex]
        subst hk
        rw [show PyData.tuple (C.map pD) = tpD pD C from rfl]
        simp [thenK_ap, sp_do_change]
        refine ⟨C, rfl, hCl, ?_⟩
        simp at q
        split
        · rename_i z
          rw [z.1, z.2] at q
          by_cases hn : C = []
          · rw [if_pos hn]
            subst hn
            exact q
          · rw [if_neg hn]
            obtain ⟨x, hx⟩ : ∃ x, C.getLast? = some x := by
              cases z : C.getLast? with
              | none => exact absurd (List.getLast?_eq_none_iff.mp z) hn
              | some x => exact ⟨x, rfl⟩
            unfold endB at q
            rw [hx] at q ⊢
            exact q
        · rename_i z
          have : ((altB 0 C && ascB C) && endB C) = false := by
            cases z1 : altB 0 C with
            | false => rfl
            | true =>
              cases z2 : ascB C with
              | false => rfl
              | true => exact absurd ⟨z1, z2⟩ z
          rw [this] at q
          exact q
      · rename_i e
        have e' : xs.all isChB = false := by
          cases z : xs.all isChB with
          | false => rfl
          | true => exact absurd (List.all_eq_true.mp z) e
        rw [e'] at q
        exact q
  | _ => exact q
theorem peaks_get {J : List Jt} {n k : Nat} (h : k < n) : (peaks J n)[k]? = some (peak J k) := tab_get h
theorem okJ_of {l r h : Int} (h0 : 0 ≤ l) (h1 : l < r) (h2 : r ≤ 60) (h3 : 1 ≤ h) (h4 : h ≤ 60) : okJ ⟨l, r, h⟩ := ⟨⟨h0, h1, h2⟩, h3, h4⟩
theorem meets__law_jets : Meets 7 m__law_jets sp__law_jets := meets2 fun a b Q ⟨ha, hb, q⟩ => by
  subst ha hb
  simp [m__law_jets, gam0, thenK_ap, csp_some, sp_draw]
  have key : ∀ (F T : Int), 5 ≤ F → F ≤ 60 → 3 ≤ T → T ≤ 60 → ∀ r : Int, 0 ≤ r → r < 8 → -4611686018427387904 ≤ r ∧ r < 4611686018427387904 ∧
      forD (bName 5) [5, 6] (dSeq2 (dAsg 6 (dCall sp_draw (dCons (dVar 0) (dCons (dVar 2) dNil)))) (dApp 4 (dTup (dCons (dVar 6) (dCons (dOp addT (dOp addT (dVar 6) (dCon (.int 1))) (dCall sp_draw (dCons (dVar 0) (dCons (dOp subT (dVar 2) (dVar 6)) dNil)))) (dCons (dOp addT (dCon (.int 1)) (dCall sp_draw (dCons (dVar 0) (dCons (dVar 3) dNil)))) dNil))))))
        (rangeD 0 r.toNat) [.pl .hand, .pl (vI 7), .pl (vI F), .pl (vI T), .ol [], .non, .non] { nx := thenK (dRet (dBlt gTuple (dCons (dVar 4) dNil))) (kTo Q), rt := (kTo Q).rt, bk := (kTo Q).bk, ct := (kTo Q).ct } := by
    intro F T f0 f1 t0 t1 r r0 r1
    refine ⟨by omega, by omega, ?_⟩
    refine for_range (fun k γ => ∃ J : List Jt, γ = [.pl .hand, .pl (vI 7), .pl (vI F), .pl (vI T), .ol (J.map jD), .non, .non] ∧ J.length = k ∧ ∀ j ∈ J, okJ j) ⟨[], rfl, rfl, fun _ h => by cases h⟩ ?_ ?_
    · rintro k γ hk ⟨J, rfl, hJ, hok⟩
      refine ⟨_, rfl, fun K' nx ct bk rt => ?_⟩
      clear ct bk rt
      simp [sp_draw, thenK_ap]
      refine ⟨by omega, by omega, fun x x0 x1 => ⟨x1, by omega, fun y y0 y1 => ⟨by omega, by omega, fun z z0 z1 => ⟨Nat.lt_of_le_of_lt (by omega) szl, ?_⟩⟩⟩⟩
      refine nx _ ⟨J ++ [⟨x, x + 1 + y, 1 + z⟩], ?_, by simp [hJ], fun j hj => ?_⟩
      · rw [List.map_append]
        rfl
      · rcases List.mem_append.mp hj with hj | hj
        · exact hok j hj
        · rw [List.mem_singleton.mp hj]
          exact okJ_of x0 (by omega) (by omega) (by omega) (by omega)
    · rintro γ ⟨J, rfl, hJ, hok⟩
      simp [thenK_ap]
      exact q J (by omega) hok
  refine ⟨?_, ?_, ?_⟩
  all_goals (refine ⟨?_, ?_, ?_⟩)
  all_goals exact key _ _ (by decide) (by decide) (by decide) (by decide)
def topF (J : List Jt) (p : Int) : List Jt := J.filter fun j => decide (j.l ≤ p) && decide (p < j.r)
theorem peakF_filter : ∀ (J : List Jt) (b p : Int), 0 ≤ b → ((topF J p).map fun j => j.h).foldl max b = peakF J b p
  | [], _, _, _ => rfl
  | j :: J, b, p, hb => by
    unfold topF
    by_cases hp : j.l ≤ p ∧ p < j.r
    · rw [List.filter_cons_of_pos (by simp [hp]), List.map_cons, List.foldl_cons, peakF_cons]
      have e : hat j p = j.h := if_pos hp
      rw [e]
      exact peakF_filter J (max b j.h) p (by omega)
    · rw [List.filter_cons_of_neg (by simp; omega), peakF_cons]
      have e : hat j p = 0 := if_neg hp
      rw [e, show max b 0 = b by omega]
      exact peakF_filter J b p hb
theorem meets__law_heights : Meets 5 m__law_heights sp__law_heights := meets1 fun a Q ⟨J, ha, hl, h, q⟩ => by
  subst ha
  simp [m__law_heights, gam0, thenK_ap]
  refine lcMr (fun i => dI (peak J i)) (by decide) (fun i hi k1 hk1 => ?_) ?_
  · simp
    refine lcF jD (fun j => decide (j.l ≤ i) && decide ((i : Int) < j.r)) (fun j => dI j.h) J (by omega) (fun j hj k2 k0 h2 h0 => ?_) ?_
    · simp [jD] at h2 h0 ⊢
      grind
    · rw [add_ll rfl rfl (by have := List.length_filter_le (fun j : Jt => decide (j.l ≤ i) && decide ((i : Int) < j.r)) J; simp; omega), onS_s]
      refine gMax_ints (n := 0) (ns := (topF J i).map fun j => j.h) rfl (by simp [topF]) ?_
      rw [peakF_filter J 0 i (by decide)]
      exact hk1
  · rw [← peaks_map]
    exact q
def prv (f : Nat → Int) (k : Nat) (l : Int) (i : Nat) : Int := if i = k then l else f (i - 1)
theorem sk_rng (f : Nat → Int) : ∀ (n k : Nat) (l : Int), sk k l ((List.range' k n).map f) = ((List.range' k n).filter fun i => !decide (f i = prv f k l i)).map fun (i : Nat) => ((i : Int), f i)
  | 0, _, _ => rfl
  | n + 1, k, l => by
    have hr : ∀ i ∈ List.range' (k + 1) n, (!decide (f i = prv f k l i)) = !decide (f i = prv f (k + 1) (f k) i) := fun i hi => by
      have := List.mem_range'_1.mp hi
      unfold prv
      by_cases h : i = k + 1
      · subst h; simp
      · rw [if_neg (by omega), if_neg h]
    rw [List.range'_succ, List.map_cons, sk, sk_rng f n (k + 1) (f k)]
    have e : prv f k l k = l := if_pos rfl
    by_cases h : f k = l
    · rw [if_pos h, List.filter_cons_of_neg (by simp [e, h]), List.filter_congr hr]
    · rw [if_neg h, List.filter_cons_of_pos (by simp [e, h]), List.filter_congr hr, List.map_cons]
theorem meets__law_skyline : Meets 4 m__law_skyline sp__law_skyline := meets1 fun a Q ⟨J, ha, hl, h, q⟩ => by
  subst ha
  simp [m__law_skyline, gam0, thenK_ap, sp__law_heights]
  refine isJets_T hl h ?_
  have hat1 : ∀ i : Nat, i < 61 → atI (dI 0 :: (peaks J 61).map dI) ((i : Int) + 1) = some (dI (peak J i)) := fun i hi => by
    rw [atI_of (by omega), show ((i : Int) + 1).toNat = i + 1 by omega, get_s, List.getElem?_map, peaks_get hi]
    rfl
  have hat2 : ∀ i : Nat, i < 61 → atI (dI 0 :: (peaks J 61).map dI) (i : Int) = some (dI (prv (fun i => peak J i) 0 0 i)) := fun i hi => by
    rw [atI_of (by omega), Int.toNat_natCast]
    cases i with
    | zero => rfl
    | succ i =>
      rw [get_s, List.getElem?_map, peaks_get (by omega)]
      rfl
  refine lcFr (fun i => !decide (peak J i = prv (fun i => peak J i) 0 0 i)) (fun i => pD ((i : Int), peak J i)) (by decide) (fun i hi k1 k0 h1 h0 => ?_) ?_
  · simp [hat1 i hi, hat2 i hi]
    simp at h1 h0
    by_cases hx : peak J i = prv (fun i => peak J i) 0 0 i
    · simp [hx]
      exact h0 hx
    · simp [hx]
      exact h1 hx
  · have e : ((List.range 61).filter fun (i : Nat) => !decide (peak J i = prv (fun i => peak J i) 0 0 i)).map (fun (i : Nat) => pD ((i : Int), peak J i)) = (sky J).map pD := by
      unfold sky peaks
      rw [tab_def, List.range_eq_range', sk_rng (fun i => peak J i) 61 0 0, List.map_map]
      rfl
    rw [e]
    exact q
theorem lots_few {n k : Nat} (hn : n ≤ 9) (hk : k ≤ 7) : ∀ j, j ≤ k → (lotsN n j).length ≤ 50000 := fun j hj => by
  have : ∀ n' : Fin 10, ∀ j' : Fin 8, (lotsN n' j').length ≤ 50000 := by decide +kernel
  exact this ⟨n, by omega⟩ ⟨j, by omega⟩
theorem allL_len {m : Nat} (hm : m ≤ 7) : (allL m).length ≤ 200 := by
  have : ∀ m' : Fin 8, (allL m').length ≤ 200 := by decide +kernel
  exact this ⟨m, by omega⟩
theorem meets_all_lots : Meets 3 m_all_lots sp_all_lots := meets1 fun a Q ⟨m, ha, hm, q⟩ => by
  subst ha
  obtain ⟨M, rfl⟩ : ∃ M : Nat, m = M := ⟨m.toNat, by omega⟩
  have hM : M ≤ 7 := by omega
  have hf := allL_len hM
  simp only [Int.toNat_natCast] at q
  unfold m_all_lots
  refine step fun k hk => ?_
  simp [gam0]
  subst hk
  refine step fun k hk => ?_
  simp
  refine ⟨by omega, by omega, ?_⟩
  rw [rangeD_up]
  refine forS dI (up 0 (M + 1)) (fun r γ => ∃ p, up 0 (M + 1) = p ++ r ∧ γ = [.pl (vI (M : Int)), .ol ((p.flatMap fun k => lotsN M k.toNat).map (tpD dI)), .non]) ⟨[], rfl, rfl⟩ ?_ ?_
  · rintro x r γ ⟨p, e, rfl⟩
    have hx := up_mem.mp (show x ∈ up 0 (M + 1) by rw [e]; simp)
    refine ⟨_, rfl, fun K' nx ct bk rt => ?_⟩
    clear ct bk rt
    simp [csp_lots, -List.length_flatMap, -List.length_map]
    refine ⟨by omega, hx.1, by omega, lots_few (by omega) (by omega), ?_, ?_⟩
    · refine Nat.le_trans ?_ (Nat.le_of_lt szl)
      have e3 : (allL M).length = (p.flatMap fun k => lotsN M k.toNat).length + ((lotsN M x.toNat).length + (r.flatMap fun k => lotsN M k.toNat).length) := by
        unfold allL
        rw [e, List.flatMap_append, List.flatMap_cons, List.length_append, List.length_append]
      simp only [List.length_map]
      omega
    · refine nx _ ⟨p ++ [x], by rw [e]; simp, ?_⟩
      rw [List.flatMap_append, List.flatMap_singleton, List.map_append]
      rfl
  · rintro γ ⟨p, e, rfl⟩
    rw [List.append_nil] at e
    subst hk
    rw [← e]
    simp [thenK_ap]
    exact q
def dbl : Nat → List (List Int)
  | 0 => [[]]
  | m + 1 => dbl m ++ (dbl m).map fun l => l ++ [(m : Int)]
abbrev ltK : Int × List Int → Int × List Int → Bool := lexP ltI (lexL ltI)
def szd (l : List Int) : Int × List Int := ((l.length : Int), l)
theorem dbl_facts : ∀ m : Fin 8, (dbl m).length ≤ 128 ∧ (∀ l ∈ dbl m, l.length ≤ 7) ∧ (∀ l ∈ dbl m, l ∈ allL m) ∧ (∀ l ∈ allL m, l ∈ dbl m) ∧ (dbl m).Nodup := by decide +kernel
theorem allL_asc : ∀ m : Fin 8, ((allL m).map szd).Pairwise fun a b => ltK a b = true := by decide +kernel
theorem allL_lot {m : Nat} (hm : m ≤ 7) {L : List Int} (h : L ∈ allL m) : L.length ≤ 7 ∧ ∀ k ∈ L, 0 ≤ k ∧ k < m := by
  have : ∀ m' : Fin 8, ∀ L ∈ allL m', L.length ≤ 7 ∧ ∀ k ∈ L, 0 ≤ k ∧ k < (m' : Nat) := by decide +kernel
  exact this ⟨m, by omega⟩ L h
theorem allL_full {m : Nat} (hm : m ≤ 7) : up 0 m ∈ allL m := by
  have : ∀ m' : Fin 8, up 0 m' ∈ allL m' := by decide +kernel
  exact this ⟨m, by omega⟩
theorem peaks_up (J : List Jt) (n : Nat) : peaks J n = hts J n := by
  unfold peaks hts up
  rw [tab_def, List.map_map]
  refine List.map_congr_left fun i _ => ?_
  simp
theorem sk_low : ∀ {xs : List Int} {p : Nat} {l : Int}, ∀ y ∈ sk p l xs, (p : Int) ≤ y.1
  | [], _, _, y, h => by cases h
  | x :: xs, p, l, y, h => by
    rw [sk] at h
    split at h
    · have := sk_low y h
      omega
    · rcases List.mem_cons.mp h with rfl | h
      · exact Int.le_refl _
      · have := sk_low y h
        omega
theorem sk_inj : ∀ {xs ys : List Int} {p : Nat} {l : Int}, xs.length = ys.length → sk p l xs = sk p l ys → xs = ys
  | [], [], _, _, _, _ => rfl
  | [], _ :: _, _, _, e, _ => by cases e
  | _ :: _, [], _, _, e, _ => by cases e
  | x :: xs, y :: ys, p, l, e, h => by
    rw [List.length_cons, List.length_cons] at e
    have e' : xs.length = ys.length := by omega
    rw [sk, sk] at h
    by_cases h1 : x = l
    · by_cases h2 : y = l
      · rw [if_pos h1, if_pos h2] at h
        rw [h1, h2] at h ⊢
        rw [sk_inj e' h]
      · rw [if_pos h1, if_neg h2] at h
        have := sk_low ((p : Int), y) (by rw [h]; exact List.mem_cons_self)
        dsimp only at this
        omega
    · by_cases h2 : y = l
      · rw [if_neg h1, if_pos h2] at h
        have := sk_low ((p : Int), x) (by rw [← h]; exact List.mem_cons_self)
        dsimp only at this
        omega
      · rw [if_neg h1, if_neg h2] at h
        injection h with a b
        injection a with _ a
        subst a
        rw [sk_inj e' b]
theorem sub_ok {J : List Jt} (h : ∀ j ∈ J, okJ j) {L : List Int} (hL : ∀ k ∈ L, 0 ≤ k ∧ k < J.length) : ∀ j ∈ subJ J L, okJ j := fun j hj => by
  obtain ⟨k, hk, rfl⟩ := List.mem_map.mp hj
  obtain ⟨k0, k1⟩ := hL k hk
  rw [List.getD_eq_getElem?_getD, List.getElem?_eq_getElem (by omega)]
  exact h _ (List.getElem_mem _)
theorem sub_at {J : List Jt} {k : Int} (k0 : 0 ≤ k) (k1 : k < J.length) : atI (J.map jD) k = some (jD (J.getD k.toNat ⟨0, 1, 1⟩)) := by
  rw [atI_of k0, List.getElem?_map, List.getD_eq_getElem?_getD, List.getElem?_eq_getElem (by omega)]
  rfl
theorem hts_sky {J J' : List Jt} (h : ∀ j ∈ J, okJ j) (h' : ∀ j ∈ J', okJ j) : sky J' = sky J ↔ hts J' 60 = hts J 60 := by
  rw [← peaks_up, ← peaks_up]
  unfold sky
  constructor
  · intro e
    have e2 := sk_inj (by unfold peaks; simp) e
    rw [peaks_s J' 60, peaks_s J 60] at e2
    exact (List.append_inj' e2 rfl).1
  · intro e
    have e60 : peak J' ((60 : Nat) : Int) = peak J ((60 : Nat) : Int) := by
      have a := peak60 h
      have b := peak60 h'
      show peak J' 60 = peak J 60
      rw [a, b]
    rw [peaks_s J' 60, peaks_s J 60, e, e60]
theorem meets_fewest_for : Meets 4 m_fewest_for sp_fewest_for := meets1 fun a Q ⟨J, ha, hl, h, h7, q⟩ => by
  subst ha
  have hf := allL_len h7
  have q : Q (optR (tpD dI) (fewO J)) := q
  refine Eq.mp (thenK_ap (g := m_fewest_for) (K := kTo Q)) ?_
  unfold m_fewest_for
  refine step fun k hk => ?_
  simp [gam0, sp_check_jets]
  refine isJets_T hl h ?_
  subst hk
  refine step fun k hk => ?_
  simp [sp_heights_of]
  rw [jetsL_ev]
  refine ⟨⟨hl, h⟩, ?_⟩
  subst hk
  refine step fun k hk => ?_
  simp [sp_all_lots]
  refine ⟨by omega, ?_⟩
  refine forS (tpD dI) (allL J.length) (fun r γ => ∃ s2 s3, (∀ L ∈ r, L ∈ allL J.length) ∧ r.find? (fun lot => decide (hts (subJ J lot) 60 = hts J 60)) = fewO J ∧ γ = [.pl (vT (J.map jD)), .pl (.d (.list ((peaks J 60).map dI))), s2, s3]) ⟨_, _, fun _ h => h, rfl, rfl⟩ ?_ ?_
  · rintro L r γ ⟨s2, s3, hr, he, rfl⟩
    obtain ⟨l7, lk⟩ := allL_lot h7 (hr L List.mem_cons_self)
    refine ⟨_, rfl, fun K' nx ct bk rt => ?_⟩
    simp
    refine lcMM dI jD (fun k => J.getD k.toNat ⟨0, 1, 1⟩) L (by omega) (fun k hk k1 hk1 => ?_) ?_
    · simp
      rw [sub_at (lk k hk).1 (lk k hk).2]
      exact hk1
    · simp [sp_heights_of, -List.map_map]
      rw [show RV.d (PyData.list ((L.map fun k => J[k.toNat]?.getD ⟨0, 1, 1⟩).map jD)) = vL ((subJ J L).map jD) by unfold subJ; simp, jetsL_evL]
      have hs := sub_ok h lk
      refine ⟨⟨by unfold subJ; rw [List.length_map]; omega, hs⟩, ?_⟩
      rw [plain_ints, plain_ints, show PyData.depthAll ((peaks (subJ J L) 60).map dI) = 0 from depth_ints _, if_pos ⟨rfl, rfl, by omega⟩, eqvAll_ints, peaks_up, peaks_up]
      simp
      rw [List.find?_cons] at he
      by_cases c : hts (subJ J L) 60 = hts J 60
      · rw [if_pos c]
        simp [c] at he
        rw [← he] at q
        exact rt _ q
      · rw [if_neg c]
        simp [c] at he
        exact nx _ ⟨_, _, fun L' hL' => hr L' (List.mem_cons_of_mem _ hL'), he, by rw [peaks_up]; rfl⟩
  · rintro γ ⟨s2, s3, hr, he, rfl⟩
    subst hk
    simp [thenK_ap]
    rw [← he] at q
    exact q
theorem meets__law_fewest : Meets 6 m__law_fewest sp__law_fewest := meets1 fun a Q ⟨J, ha, hl, h, h7, q⟩ => by
  subst ha
  obtain ⟨M, eM⟩ : ∃ M, M = J.length := ⟨_, rfl⟩
  have hM : M ≤ 7 := by omega
  obtain ⟨d1, d2, d3, d4, d5⟩ := dbl_facts ⟨M, by omega⟩
  have hasc := allL_asc ⟨M, by omega⟩
  dsimp only at d1 d2 d3 d4 d5 hasc
  have q : Q (optR (tpD dI) (fewO J)) := q
  refine Eq.mp (thenK_ap (g := m__law_fewest) (K := kTo Q)) ?_
  unfold m__law_fewest
  refine step fun k hk => ?_
  simp [gam0, sp__law_skyline]
  refine isJets_T hl h ?_
  subst hk
  refine step fun k hk => ?_
  simp
  refine ⟨by omega, ?_⟩
  rw [rangeD_up, ← eM]
  refine forS dI (up 0 M) (fun r γ => ∃ (i : Nat) (s3 s4 : Sl), up 0 M = up 0 i ++ r ∧ i ≤ M ∧ γ = [.pl (vT (J.map jD)), .ol ((dbl i).map (tpD dI)), .pl (vT ((sky J).map pD)), s3, s4, .non]) ⟨0, _, _, rfl, Nat.zero_le _, rfl⟩ ?_ ?_
  · rintro x r γ ⟨i, s3, s4, e, hi, rfl⟩
    have hx : x = (i : Int) ∧ i < M := by
      have h1 := congrArg (fun l => l[i]?) e
      have h2 : (up 0 i ++ x :: r)[i]? = some x := by
        rw [List.getElem?_append_right (by rw [up_len]; exact Nat.le_refl _), up_len, Nat.sub_self]
        rfl
      have hl := congrArg List.length e
      rw [List.length_append, up_len, up_len, List.length_cons] at hl
      have hi' : i < M := by omega
      try dsimp only at h1
      rw [h2] at h1
      unfold up at h1
      rw [List.getElem?_map, List.getElem?_range hi'] at h1
      have h3 : (0 : Int) + (i : Int) = x := Option.some.inj h1
      exact ⟨by omega, hi'⟩
    obtain ⟨rfl, hi'⟩ := hx
    obtain ⟨b1, b2, _⟩ := dbl_facts ⟨i, by omega⟩
    dsimp only at b1 b2
    refine ⟨_, rfl, fun K' nx ct bk rt => ?_⟩
    clear ct bk rt
    simp
    refine lcMM (tpD dI) (tpD dI) (fun l => l ++ [(i : Int)]) (dbl i) (by omega) (fun l hl k1 hk1 => ?_) ?_
    · have := b2 l hl
      simp [tI1, add_tpD (e := dI) (xs := l) (ys := [(i : Int)]) (by simp; omega)]
      exact hk1
    · rw [add_L (e := tpD dI) (xs := dbl i) (ys := (dbl i).map fun l => l ++ [(i : Int)]) rfl rfl (by simp; omega)]
      simp only [onS_s]
      refine nx _ ⟨i + 1, _, _, ?_, by omega, rfl⟩
      rw [up_s, Int.zero_add, e]
      simp
  · rintro γ ⟨i, s3, s4, e, hi, rfl⟩
    have hl' := congrArg List.length e
    rw [List.append_nil, up_len, up_len] at hl'
    subst hl'
    subst hk
    dsimp only
    refine step fun k hk => ?_
    simp [-List.map_map]
    refine lcMM (tpD dI) (p2 dI (tpD dI)) szd (dbl M) (by omega) (fun l hl k1 hk1 => ?_) ?_
    · simp
      exact hk1
    refine gSorted_ty (e := p2 dI (tpD dI)) (lt := ltK) (xs := (dbl M).map szd) (by decide) srt_2 (by simp; omega) rfl fun ys hp hs => ?_
    have hys : ys = (allL M).map szd := by
      have nd : ((dbl M).map szd).Nodup := List.pairwise_map.mpr (d5.imp fun {a b} h z => h (congrArg Prod.snd z))
      refine perm_one (r := fun a b => ltK a b = true) (fun a z => by have h' : ltK a a = false := Od.irr (e := p2 dI (tpD dI)) a; rw [h'] at z; cases z) (fun h1 h2 => Od.trans (e := p2 dI (tpD dI)) h1 h2) (sorted_strict (e := p2 dI (tpD dI)) hs (hp.nodup_iff.mpr nd)) hasc fun a => ?_
      rw [hp.mem_iff, List.mem_map, List.mem_map]
      exact ⟨fun ⟨l, h1, h2⟩ => ⟨l, d3 l h1, h2⟩, fun ⟨l, h1, h2⟩ => ⟨l, d4 l h1, h2⟩⟩
    subst hys
    have hf := allL_len hM
    simp [-List.map_map]
    rw [List.map_map]
    refine forS (p2 dI (tpD dI) ∘ szd) (allL M) (fun r γ => ∃ s3 s4 s5, (∀ L ∈ r, L ∈ allL M) ∧ r.find? (fun lot => decide (hts (subJ J lot) 60 = hts J 60)) = fewO J ∧ γ = [.pl (vT (J.map jD)), .ol ((dbl M).map (tpD dI)), .pl (vT ((sky J).map pD)), s3, s4, s5]) ⟨_, _, _, fun _ h => h, by unfold fewO; rw [← eM], rfl⟩ ?_ ?_
    · rintro L r γ ⟨s3, s4, s5, hr, he, rfl⟩
      obtain ⟨l7, lk⟩ := allL_lot hM (hr L List.mem_cons_self)
      rw [eM] at lk
      refine ⟨_, rfl, fun K' nx ct bk rt => ?_⟩
      simp
      refine lcMM dI jD (fun k => J.getD k.toNat ⟨0, 1, 1⟩) L (by omega) (fun k hk k1 hk1 => ?_) ?_
      · simp
        rw [sub_at (lk k hk).1 (lk k hk).2]
        exact hk1
      · simp [sp__law_skyline, -List.map_map]
        have hs := sub_ok h lk
        have es : (L.map fun k => J[k.toNat]?.getD ⟨0, 1, 1⟩) = subJ J L := by unfold subJ; simp
        rw [es, show RV.d (PyData.tuple ((subJ J L).map jD)) = vT ((subJ J L).map jD) from rfl]
        refine isJets_T (by unfold subJ; rw [List.length_map]; omega) hs ?_
        have e0 : PyData.eqvAll ((sky (subJ J L)).map pD) ((sky J).map pD) = decide (sky (subJ J L) = sky J) := by
          rw [Bool.eq_iff_iff, decide_eq_true_eq]
          exact eqvAll_ty (e := pD) _ _
        have dl := depthAll_ty (e := pD) (sky J)
        rw [if_pos ⟨plainAll_ty (e := pD) _, plainAll_ty (e := pD) _, by omega⟩, e0]
        simp
        rw [List.find?_cons] at he
        by_cases c : hts (subJ J L) 60 = hts J 60
        · rw [if_pos ((hts_sky h hs).mpr c)]
          simp [c] at he
          rw [← he] at q
          exact rt _ q
        · rw [if_neg fun z => c ((hts_sky h hs).mp z)]
          simp [c] at he
          exact nx _ ⟨_, _, _, fun L' hL' => hr L' (List.mem_cons_of_mem _ hL'), he, rfl⟩
    · rintro γ ⟨s3, s4, s5, hr, he, rfl⟩
      subst hk
      simp [thenK_ap]
      rw [← he] at q
      exact q
theorem keysT_len (J : List Jt) : (keysT J).length = J.length := by unfold keysT; rw [List.length_map, up_len]
theorem keysT_nd (J : List Jt) : (keysT J).Nodup := by
  unfold keysT
  refine List.pairwise_map.mpr ((up_asc J.length).imp fun {a b} h z => ?_)
  have := congrArg Prod.snd z
  dsimp only at this
  omega
theorem tall_one {J : List Jt} {l l' : List Int} (h : isTall J l) (h' : isTall J l') : l = l' := by
  obtain ⟨ys, h1, h2, rfl⟩ := h
  obtain ⟨zs, h3, h4, rfl⟩ := h'
  have e : ys = zs := by
    refine perm_one (r := fun a b => lexP ltI ltI a b = true) (fun a z => by have h' : lexP ltI ltI a a = false := Od.irr (e := p2 dI dI) a; rw [h'] at z; cases z) (fun h1 h2 => Od.trans (e := p2 dI dI) h1 h2) (sorted_strict (e := p2 dI dI) h2 (h1.nodup_iff.mpr (keysT_nd J))) (sorted_strict (e := p2 dI dI) h4 (h3.nodup_iff.mpr (keysT_nd J))) fun a => ?_
    rw [h1.mem_iff, h3.mem_iff]
  rw [e]
theorem tall_len {J : List Jt} {l : List Int} (h : isTall J l) : l.length = J.length ∧ ∀ i ∈ l, 0 ≤ i ∧ i < J.length := by
  obtain ⟨ys, h1, h2, rfl⟩ := h
  refine ⟨by rw [List.length_map, h1.length_eq, keysT_len], fun i hi => ?_⟩
  obtain ⟨y, hy, rfl⟩ := List.mem_map.mp hi
  obtain ⟨j, hj, rfl⟩ := List.mem_map.mp (h1.mem_iff.mp hy)
  have := up_mem.mp hj
  dsimp only
  omega
theorem enum_J (J : List Jt) : enumD (J.map jD) = (up 0 J.length).map fun k => PyData.tuple [.int k, jD (J.getD k.toNat ⟨0, 1, 1⟩)] := by
  apply List.ext_getElem?
  intro i
  unfold enumD up
  rw [List.getElem?_mapIdx, List.getElem?_map, List.getElem?_map, List.getElem?_map]
  by_cases h : i < J.length
  · rw [List.getElem?_eq_getElem h, List.getElem?_range h]
    show some (PyData.tuple [.int (i : Nat), jD J[i]]) = some (PyData.tuple [.int (0 + (i : Int)), jD (J.getD ((0 : Int) + (i : Int)).toNat ⟨0, 1, 1⟩)])
    rw [Int.zero_add, Int.toNat_natCast, List.getD_eq_getElem?_getD, List.getElem?_eq_getElem h]
    rfl
  · rw [List.getElem?_eq_none (by omega), List.getElem?_eq_none (by rw [List.length_range]; omega)]
    rfl
theorem meets_tallest_order : Meets 4 m_tallest_order sp_tallest_order := meets1 fun a Q ⟨J, ha, hl, h, q⟩ => by
  subst ha
  refine Eq.mp (thenK_ap (g := m_tallest_order) (K := kTo Q)) ?_
  unfold m_tallest_order
  refine step fun k hk => ?_
  simp [gam0, sp_check_jets]
  refine isJets_T hl h ?_
  subst hk
  simp [thenK_ap]
  rw [enum_J]
  refine lcMM (fun k => PyData.tuple [.int k, jD (J.getD k.toNat ⟨0, 1, 1⟩)]) (p2 dI dI) (fun i => (0 - (J.getD i.toNat ⟨0, 1, 1⟩).h, i)) (up 0 J.length) (by simp; omega) (fun i hi k1 hk1 => ?_) ?_
  · simpa [jD, p2] using hk1
  rw [show (up 0 J.length).map (fun i => (0 - (J.getD i.toNat ⟨0, 1, 1⟩).h, i)) = keysT J from rfl]
  have hk := keysT_len J
  refine gSorted_ty (e := p2 dI dI) (lt := lexP ltI ltI) (xs := keysT J) (by decide) srt_2 (by omega) rfl fun ys hp hs => ?_
  simp
  refine lcMM (p2 dI dI) dI (fun q => q.2) ys (by rw [hp.length_eq]; omega) (fun y hy k1 hk1 => ?_) ?_
  · simp
    exact hk1
  · exact q _ ⟨ys, hp, hs, rfl⟩
theorem meets__law_no_jets : Meets 2 m__law_no_jets sp__law_no_jets := meets1 fun a Q ⟨ha, q⟩ => by
  subst ha
  have q' : ∀ d, (okJsB d = false ∧ cnt d ≤ 1000) → Q (.d d) := fun d h => q d h.1 h.2
  have no : ∀ {x : D}, isJetB (.tuple [x]) = false := fun {x} => by
    unfold isJetB
    split
    · rename_i e; cases e
    · rfl
  have deep : ∀ d, Deep d → okJsB d = false ∧ cnt d ≤ 1000 := fun d hd => by
    refine ⟨?_, Nat.le_trans hd.cnt (by decide)⟩
    cases d with
    | tuple xs =>
      obtain ⟨x, rfl, hx⟩ := hd.tup
      have : isJetB x = false := by
        cases x with
        | tuple ys =>
          obtain ⟨y, rfl, hy⟩ := hx.tup
          exact no
        | _ => rfl
      show (decide (1 ≤ 10) && ([x].all isJetB)) = false
      simp [this]
    | _ => rfl
  refine Eq.mp (thenK_ap (g := m__law_no_jets) (K := kTo Q)) ?_
  unfold m__law_no_jets
  refine step fun k hk => ?_
  simp [gam0]
  subst hk
  refine step fun k hk => ?_
  simp
  subst hk
  refine step fun k hk => ?_
  simp
  subst hk
  simp [thenK_ap, gsp_deep]
  intro dd hdd
  simp [csp_some]
  and_intros
  all_goals first | exact q' _ (deep _ hdd) | exact q' _ (by decide)
theorem is_intD {d : D} (h : isIntD d = true) : ∃ i : Int, d = .int i := by
  cases d with
  | int i => exact ⟨i, rfl⟩
  | _ => simp at h
theorem lineG_no {l hi : Int} {x : D} {r : List D} (h : ∀ p h : Int, x ≠ .tuple [.int p, .int h]) : lineG l hi (x :: r) = false := by
  rw [lineG]
  intro p h' e
  exact h p h' e
theorem meets__law_is_line : Meets 4 m__law_is_line sp__law_is_line := meets1 fun a Q ⟨d, ha, hc, q⟩ => by
  subst ha
  refine Eq.mp (thenK_ap (g := m__law_is_line) (K := kTo Q)) ?_
  unfold m__law_is_line
  refine step fun k hk => ?_
  simp [gam0]
  cases d with
  | tuple xs =>
    have q : Q (vB (lineG (-1) 0 xs)) := q
    obtain ⟨h1, h2⟩ := cnt_t hc
    simp
    subst hk
    refine step fun k hk => ?_
    simp
    subst hk
    refine step fun k hk => ?_
    simp
    obtain ⟨s0, e0⟩ : ∃ s0, s0 = Sl.pl (.d (.tuple xs)) := ⟨_, rfl⟩
    rw [← e0]
    refine forL xs (fun r γ => ∃ l hi s3, lineG l hi r = lineG (-1) 0 xs ∧ γ = [s0, .pl (vI hi), .pl (vI l), s3]) ⟨_, _, _, rfl, rfl⟩ ?_ ?_
    · rintro x r γ ⟨l, hi, s3, he, rfl⟩
      refine ⟨_, rfl, fun K' nx ct bk rt => ?_⟩
      refine step fun k2 hk2 => ?_
      have no : (∀ p h : Int, x ≠ .tuple [.int p, .int h]) → Q (vB false) := fun hh => by
        rw [lineG_no hh] at he
        rw [← he] at q
        exact q
      cases x with
      | tuple ys =>
        simp
        by_cases e2 : ys.length = 2
        · match ys, e2 with
          | [x, y], _ =>
            simp [gsp_int]
            cases e3 : isIntD x with
            | false => exact rt _ (no fun p h e => by cases e; cases e3)
            | true =>
              cases e4 : isIntD y with
              | false => exact rt _ (no fun p h e => by cases e; cases e4)
              | true =>
                obtain ⟨p, rfl⟩ := is_intD e3
                obtain ⟨h, rfl⟩ := is_intD e4
                simp
                subst hk2
                refine step fun k2 hk2 => ?_
                simp
                rw [lineG] at he
                by_cases c : ((l < p ∧ p ≤ 60) ∧ (0 ≤ h ∧ h ≤ 60)) ∧ ¬ h = hi
                · obtain ⟨⟨⟨c1, c2⟩, c3, c4⟩, c5⟩ := c
                  simp [c1, c2, c3, c4, c5] at he ⊢
                  subst hk2
                  simp [thenK_ap]
                  exact nx _ ⟨_, _, _, he, rfl⟩
                · have ef : (((decide (l < p) && decide (p ≤ 60)) && (decide (0 ≤ h) && decide (h ≤ 60))) && !decide (h = hi)) = false := by
                    cases z : (((decide (l < p) && decide (p ≤ 60)) && (decide (0 ≤ h) && decide (h ≤ 60))) && !decide (h = hi)) with
                    | false => rfl
                    | true =>
                      simp at z
                      exact absurd ⟨⟨⟨z.1.1.1, z.1.1.2⟩, z.1.2.1, z.1.2.2⟩, z.2⟩ c
                  rw [ef] at he
                  rw [Bool.false_and] at he
                  have q0 : Q (vB false) := by rw [← he] at q; exact q
                  split
                  · split
                    · split
                      · split
                        · split
                          · exact rt _ q0
                          · exact absurd ⟨⟨⟨by assumption, by assumption⟩, by assumption, by assumption⟩, by assumption⟩ c
                        · exact rt _ q0
                      · exact rt _ q0
                    · exact rt _ q0
                  · exact rt _ q0
        · have e2' : ¬ (ys.length : Int) = 2 := by omega
          simp [e2, e2']
          exact rt _ (no fun p h e => by cases e; exact e2 rfl)
      | _ =>
        simp
        exact rt _ (no fun p h e => by cases e)
    · rintro γ ⟨l, hi, s3, he, rfl⟩
      rw [lineG] at he
      subst hk
      simp [thenK_ap]
      rw [← he] at q
      exact q
  | _ => exact q
theorem ascB_cons (x y : PI) (r : List PI) : ascB (x :: y :: r) = (decide (x.1 < y.1) && ascB (y :: r)) := rfl
theorem line_eq : ∀ (C : List PI) (l hi : Int), (∀ x ∈ C, (0 ≤ x.1 ∧ x.1 ≤ 60) ∧ 0 ≤ x.2 ∧ x.2 ≤ 60) → lineG l hi (C.map pD) = (((C.head?.all fun x => decide (l < x.1)) && (altB hi C && ascB C)) && (match C.getLast? with | none => decide (hi = 0) | some x => decide (x.2 = 0)))
  | [], l, hi, _ => by simp [lineG, altB, ascB]
  | [x], l, hi, h => by
    obtain ⟨⟨h1, h2⟩, h3, h4⟩ := h x List.mem_cons_self
    show lineG l hi [PyData.tuple [.int x.1, .int x.2]] = _
    rw [lineG, lineG]
    simp [h1, h2, h3, h4, altB, ascB]
  | x :: y :: r, l, hi, h => by
    obtain ⟨⟨h1, h2⟩, h3, h4⟩ := h x List.mem_cons_self
    have ih := line_eq (y :: r) x.1 x.2 fun z hz => h z (List.mem_cons_of_mem _ hz)
    show lineG l hi (PyData.tuple [.int x.1, .int x.2] :: (y :: r).map pD) = _
    obtain ⟨z, hz⟩ : ∃ z, (y :: r).getLast? = some z := by
      cases e : (y :: r).getLast? with
      | none => exact absurd (List.getLast?_eq_none_iff.mp e) (by simp)
      | some z => exact ⟨z, rfl⟩
    rw [lineG, ih, ascB_cons, List.getLast?_cons_cons, hz]
    rw [show altB hi (x :: y :: r) = (!decide (x.2 = hi) && altB x.2 (y :: r)) from rfl]
    simp only [h1, h2, h3, h4, decide_true, Bool.and_true, Bool.true_and, List.head?_cons, Option.all_some]
    generalize decide (l < x.1) = b1
    generalize decide (x.2 = hi) = b2
    generalize decide (x.1 < y.1) = b3
    generalize altB x.2 (y :: r) = b4
    generalize ascB (y :: r) = b5
    generalize decide (z.2 = 0) = b6
    revert b1 b2 b3 b4 b5 b6
    decide
theorem lineB_eq (d : D) : lineB d = isLineB d := by
  cases d with
  | tuple xs =>
    show lineG (-1) 0 xs = (xs.all isChB && ((altB 0 (xs.map chOf) && ascB (xs.map chOf)) && endB (xs.map chOf)))
    cases e : xs.all isChB with
    | true =>
      have ex := chs_of e
      have hok : ∀ x ∈ xs.map chOf, (0 ≤ x.1 ∧ x.1 ≤ 60) ∧ 0 ≤ x.2 ∧ x.2 ≤ 60 := fun x hx => by
        obtain ⟨d, hd, rfl⟩ := List.mem_map.mp hx
        exact (ch_of (List.all_eq_true.mp e d hd)).2
      generalize xs.map chOf = C at ex hok
      rw [ex, line_eq C _ _ hok]
      have h1 : (C.head?.all fun x => decide (-1 < x.1)) = true := by
        cases C with
        | nil => rfl
        | cons x r =>
          have := (hok x List.mem_cons_self).1.1
          simp [show (-1 : Int) < x.1 from Int.lt_of_lt_of_le (by decide) this]
      rw [h1, Bool.true_and, Bool.true_and]
      rfl
    | false =>
      rw [Bool.false_and]
      have key : ∀ (xs : List D) (l hi : Int), -1 ≤ l → lineG l hi xs = true → xs.all isChB = true := by
        intro xs
        induction xs with
        | nil => intro l hi _ _; rfl
        | cons x r ih =>
          intro l hi hl h
          by_cases c : ∃ p h : Int, x = .tuple [.int p, .int h]
          · obtain ⟨p, h', rfl⟩ := c
            rw [lineG] at h
            simp at h
            obtain ⟨⟨⟨⟨h1, h2⟩, h3, h4⟩, h5⟩, h6⟩ := h
            rw [List.all_cons, ih p h' (by omega) h6]
            simp [isChB, h2, h3, h4]
            omega
          · rw [lineG_no fun p h' e => c ⟨p, h', e⟩] at h
            cases h
      cases z : lineG (-1) 0 xs with
      | false => rfl
      | true => rw [key xs (-1) 0 (by decide) z] at e; cases e
  | _ => rfl
theorem cnts_app : ∀ xs ys : List D, cnts (xs ++ ys) = cnts xs + cnts ys
  | [], ys => by simp [cnts]
  | x :: xs, ys => by rw [List.cons_append, cnts, cnts, cnts_app xs ys]; omega
theorem cnts_take : ∀ (n : Nat) (xs : List D), cnts (xs.take n) ≤ cnts xs
  | 0, xs => by simp [cnts]
  | n + 1, [] => by simp
  | n + 1, x :: xs => by
    rw [List.take_succ_cons, cnts, cnts]
    have := cnts_take n xs
    omega
theorem cnts_drop : ∀ (n : Nat) (xs : List D), cnts (xs.drop n) ≤ cnts xs
  | 0, xs => by simp
  | n + 1, [] => by simp
  | n + 1, x :: xs => by
    rw [List.drop_succ_cons, cnts]
    have := cnts_drop n xs
    omega
theorem cnts_cut (xs : List D) (a b : Option Int) : cnts (cutG xs a b) ≤ cnts xs := by
  unfold cutG
  exact Nat.le_trans (cnts_take _ _) (cnts_drop _ _)
theorem cnts_rev : ∀ xs : List D, cnts xs.reverse = cnts xs
  | [] => rfl
  | x :: xs => by
    rw [List.reverse_cons, cnts_app, cnts_rev xs, cnts]
    simp [cnts]
    omega
theorem cnts_C : ∀ C : List PI, cnts (C.map pD) = 3 * C.length
  | [] => rfl
  | x :: C => by
    rw [List.map_cons, cnts, cnts_C C, List.length_cons]
    show 3 + _ = _
    omega
theorem meets__law_bent : Meets 7 m__law_bent sp__law_bent := meets2 fun a b Q ⟨ha, C, hb, hl, q⟩ => by
  subst ha hb
  refine Eq.mp (thenK_ap (g := m__law_bent) (K := kTo Q)) ?_
  unfold m__law_bent
  refine step fun k hk => ?_
  simp [gam0, sp_draw]
  refine ⟨by omega, fun s s0 s1 => ?_⟩
  subst hk
  unfold m__law_bent_s1
  refine step fun k hk => ?_
  simp
  have fin : ∀ x : PI, k [.pl .hand, .pl (vT (C.map pD)), .pl (vI s), .pl (.d (pD x)), .non, .non, .non] := by
    intro x
    rw [show pD x = PyData.tuple [.int x.1, .int x.2] from rfl]
    obtain ⟨u, v⟩ := x
    dsimp only
    have eC : vT (C.map pD) = RV.d (.tuple (C.map pD)) := rfl
    have hcC := cnts_C C
    generalize C.map pD = L at eC hcC q
    have hL : cnts L ≤ 183 := by omega
    subst hk
    unfold m__law_bent_s2
    refine step fun k hk => ?_
    simp
    subst hk
    unfold m__law_bent_s3
    refine step fun k hk => ?_
    simp
    subst hk
    unfold m__law_bent_s4
    refine step fun k hk => ?_
    simp [csp_some]
    suffices key : ∀ d, cnt d ≤ 10 → ∀ s4, k [.pl .hand, .pl (vT L), .pl (vI s), .pl (.d (.tuple [.int u, .int v])), s4, .pl (.d d), .non] by
      and_intros
      all_goals refine key _ ?_ _
      all_goals simp [cnt, cnts]
    intro d hd s4
    subst hk
    unfold m__law_bent_s5
    refine step fun k hk => ?_
    simp
    have hLl : L.length ≤ 183 := Nat.le_trans (cnts_len L) hL
    have cl : ∀ a b, (cutG L a b).length ≤ 183 := fun a b => Nat.le_trans (cut_len L a b) hLl
    have cc : ∀ a b, cnts (cutG L a b) ≤ 183 := fun a b => Nat.le_trans (cnts_cut L a b) hL
    have ad : ∀ X Y : List D, X.length ≤ 1000 → Y.length ≤ 1000 → addT (.pl (.d (.tuple X))) (.pl (.d (.tuple Y))) = some (.pl (.d (.tuple (X ++ Y)))) := fun X Y hx hy => add_tt (by omega)
    have c1 := cl none (some s)
    have c2 := cl (some (s + 1)) none
    have c3 := cl (some s) none
    have e1 := cc none (some s)
    have e2 := cc (some (s + 1)) none
    have e3 := cc (some s) none
    have e4 := cc none (some (-1))
    obtain ⟨A, hA⟩ : ∃ A, A = cutG L none (some s) := ⟨_, rfl⟩
    obtain ⟨B, hB⟩ : ∃ B, B = cutG L (some (s + 1)) none := ⟨_, rfl⟩
    obtain ⟨B2, hB2⟩ : ∃ B2, B2 = cutG L (some s) none := ⟨_, rfl⟩
    rw [← hA] at c1 e1 ⊢
    rw [← hB] at c2 e2 ⊢
    rw [← hB2] at c3 e3 ⊢
    rw [ad A [d] (by omega) (by simp)]
    simp only [onS_s]
    rw [ad (A ++ [d]) B (by rw [List.length_append, List.length_singleton]; omega) (by omega)]
    simp only [onS_s]
    rw [ad (A ++ [d]) B2 (by rw [List.length_append, List.length_singleton]; omega) (by omega)]
    simp
    subst hk
    unfold m__law_bent_s6
    refine step fun k hk => ?_
    simp
    rw [← hA, ← hB, ad A B (by omega) (by omega)]
    simp
    subst hk
    unfold m__law_bent_s7
    simp [thenK_ap]
    rw [ad L [.tuple [.int 60, .int 0]] (by omega) (by simp)]
    simp [gsp_deep]
    intro dd hdd
    have hdc := hdd.cnt
    have hr := cnts_rev L
    simp [csp_some]
    and_intros
    all_goals refine q _ ?_
    all_goals first | (simp [cnt, cnts, cnts_app]; done) | (simp [cnt, cnts, cnts_app]; omega) | omega
  by_cases hs : s < C.length
  · simp [hs]
    rw [atI_of s0, List.getElem?_map, List.getElem?_eq_getElem (by omega)]
    exact fin _
  · simp [hs]
    exact fin (1, 0)
theorem few_some {J : List Jt} (h7 : J.length ≤ 7) : ∃ L, fewO J = some L ∧ hts (subJ J L) 60 = hts J 60 ∧ L.length ≤ 7 ∧ ∀ k ∈ L, 0 ≤ k ∧ k < J.length := by
  cases e : fewO J with
  | none =>
    exfalso
    unfold fewO at e
    have := List.find?_eq_none.mp e (up 0 J.length) (allL_full h7)
    apply this
    have : subJ J (up 0 J.length) = J := by
      unfold subJ
      refine List.ext_getElem (by simp) fun i h1 h2 => ?_
      unfold up
      simp [List.getElem?_eq_getElem h2]
    rw [this]
    simp
  | some L =>
    unfold fewO at e
    obtain ⟨h1, h2⟩ := allL_lot h7 (List.mem_of_find?_eq_some e)
    refine ⟨L, rfl, ?_, h1, h2⟩
    have := List.find?_some e
    simpa using this
theorem sk_line : ∀ (xs : List Int) (p : Nat) (l : Int), (∀ x ∈ xs, 0 ≤ x ∧ x ≤ 60) → p + xs.length ≤ 61 → (∀ x, xs.getLast? = some x → x = 0) → (xs = [] → l = 0) → lineG ((p : Int) - 1) l ((sk p l xs).map pD) = true
  | [], p, l, _, _, _, h => by simp [sk, lineG, h rfl]
  | x :: r, p, l, h, hp, hl, _ => by
    have hx := h x List.mem_cons_self
    rw [List.length_cons] at hp
    have hl' : ∀ y, r.getLast? = some y → y = 0 := fun y hy => hl y (by
      cases r with
      | nil => cases hy
      | cons a r => rw [List.getLast?_cons_cons]; exact hy)
    have hr : r = [] → x = 0 := fun e => hl x (by rw [e]; rfl)
    have ih := sk_line r (p + 1) x (fun y hy => h y (List.mem_cons_of_mem _ hy)) (by omega) hl' hr
    rw [sk]
    split
    · rename_i e
      subst e
      have mono : ∀ (xs : List D) (l l' hi : Int), l ≤ l' → lineG l' hi xs = true → lineG l hi xs = true := by
        intro xs l l' hi hle hh
        cases xs with
        | nil => exact hh
        | cons z zs =>
          by_cases c : ∃ p h : Int, z = .tuple [.int p, .int h]
          · obtain ⟨p', h', rfl⟩ := c
            rw [lineG] at hh ⊢
            simp at hh ⊢
            obtain ⟨⟨⟨⟨h1, h2⟩, h3⟩, h5⟩, h6⟩ := hh
            exact ⟨⟨⟨⟨by omega, h2⟩, h3⟩, h5⟩, h6⟩
          · rw [lineG_no fun p h' e => c ⟨p, h', e⟩] at hh
            cases hh
      exact mono _ _ _ _ (by omega) ih
    · rename_i e
      show lineG _ _ (PyData.tuple [.int (p : Int), .int x] :: (sk (p + 1) x r).map pD) = true
      rw [lineG]
      rw [show (((p + 1 : Nat) : Int) - 1) = (p : Int) by omega] at ih
      rw [ih]
      simp [hx.1, hx.2, e]
      omega
theorem sky_line {J : List Jt} (h : ∀ j ∈ J, okJ j) : isLineB (.tuple ((sky J).map pD)) = true := by
  rw [← lineB_eq]
  have e : peaks J 61 = peaks J 60 ++ [0] := by
    rw [peaks_s J 60]
    have := peak60 h
    rw [show peak J ((60 : Nat) : Int) = 0 from this]
  refine sk_line (peaks J 61) 0 0 (fun x hx => ?_) (by unfold peaks; simp) (fun x hx => ?_) (fun _ => rfl)
  · rw [peaks_up] at hx
    obtain ⟨p, _, rfl⟩ := List.mem_map.mp hx
    exact peak_in h p
  · rw [e, List.getLast?_append] at hx
    simpa using hx.symm
theorem sky_len (J : List Jt) : (sky J).length ≤ 61 := by
  have key : ∀ (xs : List Int) (p : Nat) (l : Int), (sk p l xs).length ≤ xs.length := by
    intro xs
    induction xs with
    | nil => intro p l; exact Nat.le_refl _
    | cons x r ih =>
      intro p l
      rw [sk]
      split
      · exact Nat.le_succ_of_le (ih _ _)
      · rw [List.length_cons, List.length_cons]
        exact Nat.succ_le_succ (ih _ _)
  have := key (peaks J 61) 0 0
  unfold peaks at this
  rw [tab_len] at this
  exact this
theorem okr_fw {J : List Jt} {l L : List Int} (hl : l.length ≤ 10 ∧ ∀ i ∈ l, 0 ≤ i ∧ i < 100) (hL : L.length ≤ 10 ∧ ∀ i ∈ L, 0 ≤ i ∧ i < 100) : okRepr (dL [tpD dI l, tpD dI L, tpD dI L]) = true := rW_ok (rW_l (m := 3) (n := 410) (k := 2) (fun d hd => by
    simp at hd
    rcases hd with rfl | rfl
    · exact rW_tI (m := 10) (fun x hx => by have := hl.2 x hx; omega) hl.1
    · exact rW_tI (m := 10) (fun x hx => by have := hL.2 x hx; omega) hL.1) (by simp)) (by decide) (by decide)
theorem meets__law_is_right : Meets 10 m__law_is_right sp__law_is_right := meets2 fun a b Q ⟨ha, J, hb, hl, h, h7, q⟩ => by
  subst ha hb
  refine Eq.mp (thenK_ap (g := m__law_is_right) (K := kTo Q)) ?_
  unfold m__law_is_right
  refine step fun k hk => ?_
  simp [gam0]
  rw [enum_J]
  refine lcMM (fun k => PyData.tuple [.int k, jD (J.getD k.toNat ⟨0, 1, 1⟩)]) (p2 dI dI) (fun i => (0 - (J.getD i.toNat ⟨0, 1, 1⟩).h, i)) (up 0 J.length) (by simp; omega) (fun i hi k1 hk1 => ?_) ?_
  · simpa [jD, p2] using hk1
  rw [show (up 0 J.length).map (fun i => (0 - (J.getD i.toNat ⟨0, 1, 1⟩).h, i)) = keysT J from rfl]
  have hkl := keysT_len J
  refine gSorted_ty (e := p2 dI dI) (lt := lexP ltI ltI) (xs := keysT J) (by decide) srt_2 (by omega) rfl fun ys hp hs => ?_
  simp
  refine lcMM (p2 dI dI) dI (fun q => q.2) ys (by rw [hp.length_eq]; omega) (fun y hy k1 hk1 => ?_) ?_
  · simp
    exact hk1
  have htl : isTall J (ys.map (·.2)) := ⟨ys, hp, hs, rfl⟩
  generalize ys.map (·.2) = l at htl
  have hl2 := tall_len htl
  obtain ⟨L, hL, eL, L7, Lk⟩ := few_some h7
  rw [show PyData.tuple (List.map dI l) = tpD dI l from rfl]
  subst hk
  unfold m__law_is_right_s1
  refine step fun k hk => ?_
  simp [sp__law_fewest]
  refine isJets_T hl h ⟨h7, ?_⟩
  rw [hL]
  simp
  subst hk
  unfold m__law_is_right_s2
  refine step fun k hk => ?_
  simp [sp_tallest_order]
  refine isJets_T hl h fun l' hl' => ?_
  cases tall_one htl hl'
  simp [sp_fewest_for]
  refine isJets_T hl h ⟨h7, ?_⟩
  refine isJets_T hl h ⟨h7, ?_⟩
  rw [hL]
  simp
  have okr := okr_fw (J := J) (l := l) (L := L) ⟨by omega, fun i hi => by have := hl2.2 i hi; omega⟩ ⟨by omega, fun i hi => by have := Lk i hi; omega⟩
  refine ⟨okr, ?_⟩
  subst hk
  unfold m__law_is_right_s3
  refine step fun k hk => ?_
  simp [sp_skyline]
  refine isJets_T hl h ?_
  subst hk
  unfold m__law_is_right_s4
  refine step fun k hk => ?_
  simp
  refine lcMM dI jD (fun k => J.getD k.toNat ⟨0, 1, 1⟩) L (by omega) (fun k hk k1 hk1 => ?_) ?_
  · simp
    rw [sub_at (Lk k hk).1 (Lk k hk).2]
    exact hk1
  have hs := sub_ok h Lk
  have hsk : sky (subJ J L) = sky J := (hts_sky h hs).mpr eL
  have hcn : cnt (.tuple ((sky J).map pD)) ≤ 1000 := by
    have := sky_len J
    show cnts ((sky J).map pD) + 1 ≤ 1000
    rw [cnts_C]
    omega
  have hdd := depthAll_ty (e := pD) (sky J)
  simp [sp_skyline, -List.map_map]
  rw [show (L.map fun k => J[k.toNat]?.getD ⟨0, 1, 1⟩) = subJ J L by unfold subJ; simp, show RV.d (PyData.tuple ((subJ J L).map jD)) = vT ((subJ J L).map jD) from rfl]
  refine isJets_T (by unfold subJ; rw [List.length_map]; omega) hs ?_
  have hdd2 : PyData.depthAll ((sky J).map pD) ≤ 59 := Nat.le_trans hdd (by decide)
  rw [hsk, if_pos (by first | exact ⟨plainAll_ty (e := pD) _, hdd2⟩ | exact ⟨plainAll_ty (e := pD) _, plainAll_ty (e := pD) _, by omega⟩)]
  have e0 : PyData.eqvAll ((sky J).map pD) ((sky J).map pD) = true := (eqvAll_ty (e := pD) _ _).mpr rfl
  simp [sp_is_skyline]
  rw [if_pos e0]
  refine ⟨hcn, ?_⟩
  rw [if_pos (sky_line h)]
  subst hk
  unfold m__law_is_right_s5
  refine step fun k hk => ?_
  simp
  refine for_range (fun i γ => ∃ s8 s9, γ = [.pl .hand, .pl (vT (J.map jD)), .pl (.d (tpD dI l)), .non, .non, .non, .pl (.d (tpD dI L)), .pl (vT ((sky J).map pD)), s8, s9]) ⟨_, _, rfl⟩ ?_ ?_
  · rintro i γ hi ⟨s8, s9, rfl⟩
    refine ⟨_, rfl, fun K' nx ct bk rt => ?_⟩
    refine step fun k2 hk2 => ?_
    simp [sp__law_bent]
    refine ⟨sky J, rfl, sky_len J, fun d hd => ?_⟩
    subst hk2
    simp [thenK_ap, sp_is_skyline, sp__law_is_line, hd]
    rw [lineB_eq]
    simp
    exact nx _ ⟨_, _, rfl⟩
  · rintro γ ⟨s8, s9, rfl⟩
    subst hk
    simp [thenK_ap, m__law_is_right_s6]
    exact q
theorem meets__law_are_refused : Meets 5 m__law_are_refused sp__law_are_refused := meets1 fun a Q ⟨ha, q⟩ => by
  subst ha
  have x1 : ("NoJets" : Str) ∈ excs := by decide
  have x2 : ("NoPlace" : Str) ∈ excs := by decide
  have w1 : wordX "NoJets" = "jets" := by decide
  have w2 : wordX "NoPlace" = "place" := by decide
  refine Eq.mp (thenK_ap (g := m__law_are_refused) (K := kTo Q)) ?_
  unfold m__law_are_refused
  refine step fun k hk => ?_
  simp [gam0, sp__law_no_jets]
  intro e he1 he2
  simp [gsp_deep]
  intro dd hdd
  simp [csp_some]
  suffices key : ∀ f, inD 0 59 f = false → k [.pl .hand, .pl (.d e), .pl (.d f), .non, .non] by
    and_intros
    all_goals first | exact key _ hdd.inD | exact key _ (by decide)
  intro f hf
  have hbad : ∀ X : Exn → Prop, X "NoJets" → xJ [.d e] X := fun X hX => ⟨e, rfl, he1, he2, hX⟩
  subst hk
  refine step fun k hk => ?_
  simp
  iterate 5
    refine xCallV_of (S := xJ) rfl (by simp) ?_
    simp
    refine hbad _ ?_
    simp [sp__law_word, x1, w1]
  subst hk
  refine step fun k hk => ?_
  simp
  iterate 2
    refine xCallV_of (S := xJ) rfl (by simp) ?_
    simp
    refine hbad _ ?_
    simp [sp__law_word, x1, w1]
  subst hk
  refine step fun k hk => ?_
  simp [spx_highest_at]
  refine .inl ⟨he1, he2, ?_⟩
  simp [sp__law_word, x1, w1]
  subst hk
  refine step fun k hk => ?_
  simp [spx_highest_at]
  refine .inr ?_
  refine isJets_T (J := [⟨0, 1, 1⟩]) (by decide) (by decide) ⟨hf, ?_⟩
  simp [sp__law_word, x2, w2]
  subst hk
  simp [thenK_ap]
  rw [eqT_self rfl rfl (by rfl) (by decide)]
  simpa using q
theorem holds_law : Law 4 m_law := by
  have n1 : RV.d (PyData.tuple [.tuple [.int 0, .int 3, .int 2], .tuple [.int 1, .int 2, .int 1], .tuple [.int 0, .int 2, .int 2], .tuple [.int 2, .int 4, .int 2]]) = vT (([⟨0, 3, 2⟩, ⟨1, 2, 1⟩, ⟨0, 2, 2⟩, ⟨2, 4, 2⟩] : List Jt).map jD) := rfl
  have n2 : PyData.tuple [.int 0, .int 2, .int 3, .int 1] = tpD dI [0, 2, 3, 1] := rfl
  have n3 : PyData.tuple [.int 0, .int 3] = tpD dI [0, 3] := rfl
  have o1 : ∀ j ∈ ([⟨0, 3, 2⟩, ⟨1, 2, 1⟩, ⟨0, 2, 2⟩, ⟨2, 4, 2⟩] : List Jt), okJ j := by decide
  have t1 : isTall ([⟨0, 3, 2⟩, ⟨1, 2, 1⟩, ⟨0, 2, 2⟩, ⟨2, 4, 2⟩] : List Jt) [0, 2, 3, 1] := ⟨[(-2, 0), (-2, 2), (-2, 3), (-1, 1)], by decide, by decide, rfl⟩
  have f1 : fewO ([⟨0, 3, 2⟩, ⟨1, 2, 1⟩, ⟨0, 2, 2⟩, ⟨2, 4, 2⟩] : List Jt) = some [0, 3] := by decide +kernel
  have t2 : isTall [] [] := ⟨[], by decide, by decide, rfl⟩
  have f2 : fewO [] = some [] := by decide +kernel
  refine Eq.mp (thenK_ap (g := m_law) (K := kTrue)) ?_
  unfold m_law
  refine step fun k hk => ?_
  simp [gam1]
  obtain ⟨J, hJ⟩ : ∃ J : List Jt, J = [⟨0, 3, 2⟩, ⟨1, 2, 1⟩, ⟨0, 2, 2⟩, ⟨2, 4, 2⟩] := ⟨_, rfl⟩
  have hl : J.length = 4 := by rw [hJ]; rfl
  rw [n1, ← hJ]
  rw [← hJ] at o1 t1 f1
  subst hk
  refine step fun k hk => ?_
  simp [sp_tallest_order]
  refine isJets_T (by omega) o1 fun l hl' => ?_
  cases tall_one t1 hl'
  rw [n2]
  simp [sp_fewest_for]
  refine isJets_T (by omega) o1 ⟨by omega, ?_⟩
  rw [f1, n3]
  simp
  subst hk
  refine step fun k hk => ?_
  simp [sp_fewest_for, sp_tallest_order]
  have n5 : PyData.tuple [] = tpD dI [] := rfl
  refine isJets_T (J := []) (by decide) (by decide) ⟨by decide, ?_⟩
  rw [f2, n5]
  simp
  refine isJets_T (J := []) (by decide) (by decide) fun l hl' => ?_
  cases tall_one t2 hl'
  simp [sp_is_skyline]
  refine ⟨by decide, ?_⟩
  rw [show isLineB (tpD dI []) = true by decide]
  simp
  subst hk
  refine step fun k hk => ?_
  simp [sp_is_skyline]
  refine ⟨by decide, ?_⟩
  rw [show isLineB (.tuple [.tuple [.int 0, .int 2], .tuple [.int 1, .int 0]]) = true by decide]
  simp
  refine ⟨by decide, ?_⟩
  rw [show isLineB (.tuple [.tuple [.int 0, .int 2], .tuple [.int 1, .int 2], .tuple [.int 2, .int 0]]) = false by decide]
  simp
  subst hk
  refine step fun k hk => ?_
  simp [sp_is_skyline]
  refine ⟨by decide, ?_⟩
  rw [show isLineB (.tuple [.tuple [.int 3, .int 0]]) = false by decide]
  simp
  refine ⟨by decide, ?_⟩
  rw [show isLineB (.tuple [.tuple [.int 0, .int 2]]) = false by decide]
  simp
  subst hk
  refine step fun k hk => ?_
  simp
  refine for_range (fun i γ => ∃ s3, γ = [.non, .pl .hand, .pl (vT (J.map jD)), s3]) ⟨_, rfl⟩ ?_ ?_
  · rintro i γ hi ⟨s3, rfl⟩
    refine ⟨_, rfl, fun K' nx ct bk rt => ?_⟩
    simp [sp__law_jets]
    intro J' hl' h'
    simp [sp__law_is_right]
    refine isJets_T (by omega) h' ⟨hl', ?_⟩
    simp [sp__law_are_refused]
    exact nx _ ⟨_, rfl⟩
  · rintro γ ⟨s3, rfl⟩
    subst hk
    unfold m_law_s6
    simp [thenK_ap, kTrue]
end DL.K41


namespace DL.K41
open PySem PySem.Spec PyProof.Rows L2 PySem.W
section
variable {hv : Hv} {P : Program} {w : World} {K : PySem.W.Frag} {mg : Str → Option Value} {base : Heap}
theorem sc_is_integer : FnScope ["thing"] ["thing"] (defScope (top 1)) := ⟨rfl, rfl, rfl, by decide +kernel, rfl, by decide +kernel, by decide +kernel⟩
theorem ok_is_integer (G : GG K mg)  : Fn hv P w K mg base 1 "is_integer" ["thing"] sp_is_integer :=
  fn_ok (m := m_is_integer) (G.df 0 (top 1) "is_integer" rfl rfl) sc_is_integer sp1_len (fun _ _ _ _ _ _ us hl => match us, hl with | [_], _ => rfl) (fun f cdv A outer s H E hr hgd => by
    have hu := hr.units
    have hu8 := u80 hr
    have sc_nd := sc_is_integer.nd
    exact (dss_one (ds_ret (de_and (de_isa isa_int (G.free 6 rfl) (G.free 5 rfl) bt_int (de_pv (pv 0))) (de_one (de_not (de_isa isa_bool (G.free 6 rfl) (G.free 3 rfl) bt_bool (de_pv (pv 0))))))))) meets_is_integer
theorem sc_is_within : FnScope ["thing", "least", "most"] ["thing", "least", "most"] (defScope (top 2)) := ⟨rfl, rfl, rfl, by decide +kernel, rfl, by decide +kernel, by decide +kernel⟩
theorem ok_is_within (G : GG K mg) (F_is_integer : Fn hv P w K mg base 1 "is_integer" ["thing"] sp_is_integer) : Fn hv P w K mg base 2 "is_within" ["thing", "least", "most"] sp_is_within :=
  fn_ok (m := m_is_within) (G.df 1 (top 2) "is_within" rfl rfl) sc_is_within sp3_len (fun _ _ _ _ _ _ us hl => match us, hl with | [_, _, _], _ => rfl) (fun f cdv A outer s H E hr hgd => by
    have hu := hr.units
    have hu8 := u80 hr
    have sc_nd := sc_is_within.nd
    exact (dss_one (ds_ret (de_and (de_fn (F_is_integer.mono (by decide)) hr hgd (da_cons (de_pv (pv 0)) da_nil)) (de_one (de_chain (od_le hu) (od_le hu) (de_pv (pv 1)) (de_pv (pv 0)) (de_pv (pv 2)))))))) meets_is_within
theorem sc_is_tuple_of : FnScope ["thing", "size"] ["thing", "size"] (defScope (top 3)) := ⟨rfl, rfl, rfl, by decide +kernel, rfl, by decide +kernel, by decide +kernel⟩
theorem ok_is_tuple_of (G : GG K mg)  : Fn hv P w K mg base 1 "is_tuple_of" ["thing", "size"] sp_is_tuple_of :=
  fn_ok (m := m_is_tuple_of) (G.df 2 (top 3) "is_tuple_of" rfl rfl) sc_is_tuple_of sp2_len (fun _ _ _ _ _ _ us hl => match us, hl with | [_, _], _ => rfl) (fun f cdv A outer s H E hr hgd => by
    have hu := hr.units
    have hu8 := u80 hr
    have sc_nd := sc_is_tuple_of.nd
    exact (dss_one (ds_ret (de_and (de_isa isa_tuple (G.free 6 rfl) (G.free 14 rfl) bt_tuple (de_pv (pv 0))) (de_one (de_cmp (od_eq hu) (de_blt (cd_len) (G.free 7 rfl) bt_len (da_cons (de_pv (pv 0)) da_nil)) (de_pv (pv 1)))))))) meets_is_tuple_of
theorem sc_lots_of : FnScope ["many", "size", "found", "turn", "longer", "lot", "begin", "one"] ["many", "size"] (defScope (top 9)) := ⟨rfl, rfl, rfl, by decide +kernel, rfl, by decide +kernel, by decide +kernel⟩
theorem ok_lots_of (G : GG K mg)  : Fn hv P w K mg base 1 "lots_of" ["many", "size"] sp_lots_of :=
  fn_ok (m := m_lots_of) (G.df 3 (top 9) "lots_of" rfl rfl) sc_lots_of sp2_len (fun _ _ _ _ _ _ us hl => match us, hl with | [_, _], _ => rfl) (fun f cdv A outer s H E hr hgd => by
    have hu := hr.units
    have hu8 := u80 hr
    have sc_nd := sc_lots_of.nd
    exact (dss_cons (ds_asg sc_nd (de_lst (da_cons (de_tup da_nil) da_nil)))
  (dss_cons (ds_weak (ds_for .never rfl (di_rng1 (G.free 10 rfl) (da_cons (de_pv (pv 1)) da_nil)) (dg_name sc_nd) (bt_name 3) (dss_cons (ds_asg sc_nd (de_lst da_nil))
  (dss_cons (ds_frz (ds_weak (ds_for .never rfl (di_seq (de_pv (pv 2))) (dg_name sc_nd) (bt_name 5) (dss_cons (ds_asg sc_nd (de_ite (dt_cmp (od_gt hu) (de_blt (cd_len) (G.free 7 rfl) bt_len (da_cons (de_pv (pv 5)) da_nil)) de_int) (de_op od_add (de_idx hu (de_pv (pv 5)) (de_neg de_int)) de_int) de_int))
  (dss_one (ds_ext (pv 4) (de_lc rfl sc_nd (di_rng2 (G.free 10 rfl) (da_cons (de_pv (pv 6)) (da_cons (de_pv (pv 0)) da_nil))) (own := [("one", 7)]) (by rfl) (fun _ _ _ _ _ => (dg_name sc_nd)) (fun _ _ _ _ _ => dts_nil) (fun _ _ _ _ _ => (de_op od_add (de_pv (pv 5)) (de_tup (da_cons (de_pv (pv 7)) da_nil)))))))))))
  (dss_one (ds_frz (ds_asg sc_nd (de_pv (pv 4)))))))))
  (dss_one (ds_retV (pv 2)))))) meets_lots_of
theorem sc_all_lots : FnScope ["many", "found", "size"] ["many"] (defScope (top 10)) := ⟨rfl, rfl, rfl, by decide +kernel, rfl, by decide +kernel, by decide +kernel⟩
theorem ok_all_lots (G : GG K mg) (F_lots_of : Fn hv P w K mg base 1 "lots_of" ["many", "size"] sp_lots_of) : Fn hv P w K mg base 2 "all_lots" ["many"] sp_all_lots :=
  fn_ok (m := m_all_lots) (G.df 4 (top 10) "all_lots" rfl rfl) sc_all_lots sp1_len (fun _ _ _ _ _ _ us hl => match us, hl with | [_], _ => rfl) (fun f cdv A outer s H E hr hgd => by
    have hu := hr.units
    have hu8 := u80 hr
    have sc_nd := sc_all_lots.nd
    exact (dss_cons (ds_asg sc_nd (de_lst da_nil))
  (dss_cons (ds_weak (ds_for .never rfl (di_rng1 (G.free 10 rfl) (da_cons (de_op od_add (de_pv (pv 0)) de_int) da_nil)) (dg_name sc_nd) (bt_name 2) (dss_one (ds_ext (pv 1) (de_fn (F_lots_of.mono (by decide)) hr hgd (da_cons (de_pv (pv 0)) (da_cons (de_pv (pv 2)) da_nil)))))))
  (dss_one (ds_retV (pv 1)))))) meets_all_lots
theorem sc_is_jet : FnScope ["thing", "one"] ["thing"] (defScope (top 15)) := ⟨rfl, rfl, rfl, by decide +kernel, rfl, by decide +kernel, by decide +kernel⟩
theorem ok_is_jet (G : GG K mg) (F_is_tuple_of : Fn hv P w K mg base 1 "is_tuple_of" ["thing", "size"] sp_is_tuple_of) (F_is_within : Fn hv P w K mg base 2 "is_within" ["thing", "least", "most"] sp_is_within) : Fn hv P w K mg base 3 "is_jet" ["thing"] sp_is_jet :=
  fn_ok (m := m_is_jet) (G.df 5 (top 15) "is_jet" rfl rfl) sc_is_jet sp1_len (fun _ _ _ _ _ _ us hl => match us, hl with | [_], _ => rfl) (fun f cdv A outer s H E hr hgd => by
    have hu := hr.units
    have hu8 := u80 hr
    have sc_nd := sc_is_jet.nd
    exact (dss_cons (ds_if (dt_w (dw_or (dt_not (dt_tru (de_fn (F_is_tuple_of.mono (by decide)) hr hgd (da_cons (de_pv (pv 0)) (da_cons de_int da_nil))))) (dw_or1 (dt_not (dt_tru (de_blt (cd_all rfl) (G.free 2 rfl) bt_all (da_cons (de_lc rfl sc_nd (di_seq (de_slc (de_pv (pv 0)) dp_no (dp_some de_int))) (own := [("one", 1)]) (by rfl) (fun _ _ _ _ _ => (dg_name sc_nd)) (fun _ _ _ _ _ => dts_nil) (fun _ _ _ _ _ => (de_fn (F_is_within.mono (by decide)) hr hgd (da_cons (de_pv (pv 1)) (da_cons de_int (da_cons (de_gint (G.gint 1 rfl)) da_nil)))))) da_nil))))))) (dss_one (ds_ret de_bl)) dss_nil)
  (dss_one (ds_ret (de_and (de_cmp (od_lt hu) (de_idx hu (de_pv (pv 0)) de_int) (de_idx hu (de_pv (pv 0)) de_int)) (de_one (de_fn (F_is_within.mono (by decide)) hr hgd (da_cons (de_idx hu (de_pv (pv 0)) de_int) (da_cons de_int (da_cons (de_gint (G.gint 2 rfl)) da_nil)))))))))) meets_is_jet
theorem sc_check_jets : FnScope ["jets", "jet"] ["jets"] (defScope (top 16)) := ⟨rfl, rfl, rfl, by decide +kernel, rfl, by decide +kernel, by decide +kernel⟩
theorem ok_check_jets (G : GG K mg) (F_is_jet : Fn hv P w K mg base 3 "is_jet" ["thing"] sp_is_jet) : Fn hv P w K mg base 4 "check_jets" ["jets"] sp_check_jets :=
  fn_ok (m := m_check_jets) (G.df 6 (top 16) "check_jets" rfl rfl) sc_check_jets sp1_len (fun _ _ _ _ _ _ us hl => match us, hl with | [_], _ => rfl) (fun f cdv A outer s H E hr hgd => by
    have hu := hr.units
    have hu8 := u80 hr
    have sc_nd := sc_check_jets.nd
    exact (dss_one (ds_if (dt_w (dw_or (dt_not (dt_tru (de_isa isa_tuple (G.free 6 rfl) (G.free 14 rfl) bt_tuple (de_pv (pv 0))))) (dw_or (dt_cmp (od_gt hu) (de_blt (cd_len) (G.free 7 rfl) bt_len (da_cons (de_pv (pv 0)) da_nil)) (de_gint (G.gint 0 rfl))) (dw_or1 (dt_not (dt_tru (de_blt (cd_all rfl) (G.free 2 rfl) bt_all (da_cons (de_lc rfl sc_nd (di_seq (de_pv (pv 0))) (own := [("jet", 1)]) (by rfl) (fun _ _ _ _ _ => (dg_name sc_nd)) (fun _ _ _ _ _ => dts_nil) (fun _ _ _ _ _ => (de_fn (F_is_jet.mono (by decide)) hr hgd (da_cons (de_pv (pv 1)) da_nil)))) da_nil)))))))) (dss_one ds_never) dss_nil))) meets_check_jets
theorem sc_height_at : FnScope ["jet", "place"] ["jet", "place"] (defScope (top 17)) := ⟨rfl, rfl, rfl, by decide +kernel, rfl, by decide +kernel, by decide +kernel⟩
theorem ok_height_at (G : GG K mg)  : Fn hv P w K mg base 1 "height_at" ["jet", "place"] sp_height_at :=
  fn_ok (m := m_height_at) (G.df 7 (top 17) "height_at" rfl rfl) sc_height_at sp2_len (fun _ _ _ _ _ _ us hl => match us, hl with | [_, _], _ => rfl) (fun f cdv A outer s H E hr hgd => by
    have hu := hr.units
    have hu8 := u80 hr
    have sc_nd := sc_height_at.nd
    exact (dss_one (ds_ret (de_ite (dt_chain (od_le hu) (od_lt hu) (de_idx hu (de_pv (pv 0)) de_int) (de_pv (pv 1)) (de_idx hu (de_pv (pv 0)) de_int)) (de_idx hu (de_pv (pv 0)) de_int) de_int)))) meets_height_at
theorem sc_heights_of : FnScope ["jets", "place", "jet"] ["jets"] (defScope (top 18)) := ⟨rfl, rfl, rfl, by decide +kernel, rfl, by decide +kernel, by decide +kernel⟩
theorem ok_heights_of (G : GG K mg) (F_height_at : Fn hv P w K mg base 1 "height_at" ["jet", "place"] sp_height_at) : Fn hv P w K mg base 2 "heights_of" ["jets"] sp_heights_of :=
  fn_ok (m := m_heights_of) (G.df 8 (top 18) "heights_of" rfl rfl) sc_heights_of sp1_len (fun _ _ _ _ _ _ us hl => match us, hl with | [_], _ => rfl) (fun f cdv A outer s H E hr hgd => by
    have hu := hr.units
    have hu8 := u80 hr
    have sc_nd := sc_heights_of.nd
    exact (dss_one (ds_ret (de_lc rfl sc_nd (di_rng1 (G.free 10 rfl) (da_cons (de_gint (G.gint 1 rfl)) da_nil)) (own := [("place", 1)]) (by rfl) (fun _ _ _ _ _ => (dg_name sc_nd)) (fun _ _ _ _ _ => dts_nil) (fun _ _ _ _ _ => (de_blt (cd_max rfl hu) (G.free 9 rfl) bt_max (da_cons (de_op od_add (de_lst (da_cons de_int da_nil)) (de_lc rfl sc_nd (di_seq (de_pv (pv 0))) (own := [("jet", 2)]) (by rfl) (fun _ _ _ _ _ => (dg_name sc_nd)) (fun _ _ _ _ _ => dts_nil) (fun _ _ _ _ _ => (de_fn (F_height_at.mono (by decide)) hr hgd (da_cons (de_pv (pv 2)) (da_cons (de_pv (pv 1)) da_nil)))))) da_nil))))))) meets_heights_of
theorem sc_raw_skyline : FnScope ["jets", "found", "last", "place", "height"] ["jets"] (defScope (top 19)) := ⟨rfl, rfl, rfl, by decide +kernel, rfl, by decide +kernel, by decide +kernel⟩
theorem ok_raw_skyline (G : GG K mg) (F_heights_of : Fn hv P w K mg base 2 "heights_of" ["jets"] sp_heights_of) : Fn hv P w K mg base 3 "raw_skyline" ["jets"] sp_raw_skyline :=
  fn_ok (m := m_raw_skyline) (G.df 9 (top 19) "raw_skyline" rfl rfl) sc_raw_skyline sp1_len (fun _ _ _ _ _ _ us hl => match us, hl with | [_], _ => rfl) (fun f cdv A outer s H E hr hgd => by
    have hu := hr.units
    have hu8 := u80 hr
    have sc_nd := sc_raw_skyline.nd
    exact (dss_cons (ds_par rfl sc_nd (da2_cons (de_lst da_nil) (da2_cons de_int da2_nil)))
  (dss_cons (ds_weak (ds_for .never rfl (di_enumT (G.free 4 rfl) (da_cons (de_op od_add (de_fn (F_heights_of.mono (by decide)) hr hgd (da_cons (de_pv (pv 0)) da_nil)) (de_lst (da_cons de_int da_nil))) da_nil)) (dg_tup rfl (dgs_cons (dg_name sc_nd) (dgs_cons (dg_name sc_nd) dgs_nil))) (bt_tup (bts_cons (bt_name 3) (bts_cons (bt_name 4) bts_nil))) (dss_cons (ds_if (dt_cmp (od_ne hu) (de_pv (pv 4)) (de_pv (pv 2))) (dss_one (ds_app (pv 1) (de_tup (da_cons (de_pv (pv 3)) (da_cons (de_pv (pv 4)) da_nil))))) dss_nil)
  (dss_one (ds_asg sc_nd (de_pv (pv 4)))))))
  (dss_one (ds_retV (pv 1)))))) meets_raw_skyline
theorem sc_skyline : FnScope ["jets"] ["jets"] (defScope (top 20)) := ⟨rfl, rfl, rfl, by decide +kernel, rfl, by decide +kernel, by decide +kernel⟩
theorem ok_skyline (G : GG K mg) (F_check_jets : Fn hv P w K mg base 4 "check_jets" ["jets"] sp_check_jets) (F_raw_skyline : Fn hv P w K mg base 3 "raw_skyline" ["jets"] sp_raw_skyline) : Fn hv P w K mg base 5 "skyline" ["jets"] sp_skyline :=
  fn_ok (m := m_skyline) (G.df 10 (top 20) "skyline" rfl rfl) sc_skyline sp1_len (fun _ _ _ _ _ _ us hl => match us, hl with | [_], _ => rfl) (fun f cdv A outer s H E hr hgd => by
    have hu := hr.units
    have hu8 := u80 hr
    have sc_nd := sc_skyline.nd
    exact (dss_cons (ds_exp (de_fn (F_check_jets.mono (by decide)) hr hgd (da_cons (de_pv (pv 0)) da_nil)))
  (dss_one (ds_ret (de_bty (cd_tuple) (G.free 14 rfl) bt_tuple (da_cons (de_fn (F_raw_skyline.mono (by decide)) hr hgd (da_cons (de_pv (pv 0)) da_nil)) da_nil)))))) meets_skyline
theorem sc_tallest_order : FnScope ["jets", "height", "number", "jet"] ["jets"] (defScope (top 28)) := ⟨rfl, rfl, rfl, by decide +kernel, rfl, by decide +kernel, by decide +kernel⟩
theorem ok_tallest_order (G : GG K mg) (F_check_jets : Fn hv P w K mg base 4 "check_jets" ["jets"] sp_check_jets) : Fn hv P w K mg base 5 "tallest_order" ["jets"] sp_tallest_order :=
  fn_ok (m := m_tallest_order) (G.df 18 (top 28) "tallest_order" rfl rfl) sc_tallest_order sp1_len (fun _ _ _ _ _ _ us hl => match us, hl with | [_], _ => rfl) (fun f cdv A outer s H E hr hgd => by
    have hu := hr.units
    have hu8 := u80 hr
    have sc_nd := sc_tallest_order.nd
    exact (dss_cons (ds_exp (de_fn (F_check_jets.mono (by decide)) hr hgd (da_cons (de_pv (pv 0)) da_nil)))
  (dss_one (ds_ret (de_bty (cd_tuple) (G.free 14 rfl) bt_tuple (da_cons (de_lc rfl sc_nd (di_seq (de_blt (cd_sortedX rfl hu8) (G.free 12 rfl) bt_sorted (da_cons (de_lc rfl sc_nd (di_enumT (G.free 4 rfl) (da_cons (de_pv (pv 0)) da_nil)) (own := [("number", 2), ("jet", 3)]) (by rfl) (fun _ _ _ _ _ => (dg_tup rfl (dgs_cons (dg_name sc_nd) (dgs_cons (dg_name sc_nd) dgs_nil)))) (fun _ _ _ _ _ => dts_nil) (fun _ _ _ _ _ => (de_tup (da_cons (de_op od_sub de_int (de_idx hu (de_pv (pv 3)) de_int)) (da_cons (de_pv (pv 2)) da_nil))))) da_nil))) (own := [("height", 1), ("number", 2)]) (by rfl) (fun _ _ _ _ _ => (dg_tup rfl (dgs_cons (dg_name sc_nd) (dgs_cons (dg_name sc_nd) dgs_nil)))) (fun _ _ _ _ _ => dts_nil) (fun _ _ _ _ _ => (de_pv (pv 2)))) da_nil)))))) meets_tallest_order
theorem sc_fewest_for : FnScope ["jets", "whole", "lot", "number"] ["jets"] (defScope (top 29)) := ⟨rfl, rfl, rfl, by decide +kernel, rfl, by decide +kernel, by decide +kernel⟩
theorem ok_fewest_for (G : GG K mg) (F_all_lots : Fn hv P w K mg base 2 "all_lots" ["many"] sp_all_lots) (F_check_jets : Fn hv P w K mg base 4 "check_jets" ["jets"] sp_check_jets) (F_heights_of : Fn hv P w K mg base 2 "heights_of" ["jets"] sp_heights_of) : Fn hv P w K mg base 5 "fewest_for" ["jets"] sp_fewest_for :=
  fn_ok (m := m_fewest_for) (G.df 19 (top 29) "fewest_for" rfl rfl) sc_fewest_for sp1_len (fun _ _ _ _ _ _ us hl => match us, hl with | [_], _ => rfl) (fun f cdv A outer s H E hr hgd => by
    have hu := hr.units
    have hu8 := u80 hr
    have sc_nd := sc_fewest_for.nd
    exact (dss_cons (ds_exp (de_fn (F_check_jets.mono (by decide)) hr hgd (da_cons (de_pv (pv 0)) da_nil)))
  (dss_cons (ds_asg sc_nd (de_fn (F_heights_of.mono (by decide)) hr hgd (da_cons (de_pv (pv 0)) da_nil)))
  (dss_cons (ds_weak (ds_for .never rfl (di_seq (de_fn (F_all_lots.mono (by decide)) hr hgd (da_cons (de_blt (cd_len) (G.free 7 rfl) bt_len (da_cons (de_pv (pv 0)) da_nil)) da_nil))) (dg_name sc_nd) (bt_name 2) (dss_one (ds_if (dt_cmp (od_eq hu) (de_fn (F_heights_of.mono (by decide)) hr hgd (da_cons (de_lc rfl sc_nd (di_seq (de_pv (pv 2))) (own := [("number", 3)]) (by rfl) (fun _ _ _ _ _ => (dg_name sc_nd)) (fun _ _ _ _ _ => dts_nil) (fun _ _ _ _ _ => (de_idx hu (de_pv (pv 0)) (de_pv (pv 3))))) da_nil)) (de_pv (pv 1))) (dss_one (ds_retV (pv 2))) dss_nil))))
  (dss_one (ds_ret de_non)))))) meets_fewest_for
theorem sc_is_change : FnScope ["thing"] ["thing"] (defScope (top 30)) := ⟨rfl, rfl, rfl, by decide +kernel, rfl, by decide +kernel, by decide +kernel⟩
theorem ok_is_change (G : GG K mg) (F_is_tuple_of : Fn hv P w K mg base 1 "is_tuple_of" ["thing", "size"] sp_is_tuple_of) (F_is_within : Fn hv P w K mg base 2 "is_within" ["thing", "least", "most"] sp_is_within) : Fn hv P w K mg base 3 "is_change" ["thing"] sp_is_change :=
  fn_ok (m := m_is_change) (G.df 20 (top 30) "is_change" rfl rfl) sc_is_change sp1_len (fun _ _ _ _ _ _ us hl => match us, hl with | [_], _ => rfl) (fun f cdv A outer s H E hr hgd => by
    have hu := hr.units
    have hu8 := u80 hr
    have sc_nd := sc_is_change.nd
    exact (dss_cons (ds_if (dt_w (dw_or (dt_not (dt_tru (de_fn (F_is_tuple_of.mono (by decide)) hr hgd (da_cons (de_pv (pv 0)) (da_cons de_int da_nil))))) (dw_or1 (dt_not (dt_tru (de_fn (F_is_within.mono (by decide)) hr hgd (da_cons (de_idx hu (de_pv (pv 0)) de_int) (da_cons de_int (da_cons (de_gint (G.gint 1 rfl)) da_nil))))))))) (dss_one (ds_ret de_bl)) dss_nil)
  (dss_one (ds_ret (de_fn (F_is_within.mono (by decide)) hr hgd (da_cons (de_idx hu (de_pv (pv 0)) de_int) (da_cons de_int (da_cons (de_gint (G.gint 2 rfl)) da_nil)))))))) meets_is_change
theorem sc_do_change : FnScope ["changes", "last", "place", "height", "one", "other"] ["changes"] (defScope (top 31)) := ⟨rfl, rfl, rfl, by decide +kernel, rfl, by decide +kernel, by decide +kernel⟩
theorem ok_do_change (G : GG K mg)  : Fn hv P w K mg base 1 "do_change" ["changes"] sp_do_change :=
  fn_ok (m := m_do_change) (G.df 21 (top 31) "do_change" rfl rfl) sc_do_change sp1_len (fun _ _ _ _ _ _ us hl => match us, hl with | [_], _ => rfl) (fun f cdv A outer s H E hr hgd => by
    have hu := hr.units
    have hu8 := u80 hr
    have sc_nd := sc_do_change.nd
    exact (dss_cons (ds_asg sc_nd de_int)
  (dss_cons (ds_weak (ds_for .never rfl (di_seq (de_pv (pv 0))) (dg_tup rfl (dgs_cons (dg_name sc_nd) (dgs_cons (dg_name sc_nd) dgs_nil))) (bt_tup (bts_cons (bt_name 2) (bts_cons (bt_name 3) bts_nil))) (dss_cons (ds_if (dt_cmp (od_eq hu) (de_pv (pv 3)) (de_pv (pv 1))) (dss_one (ds_ret de_bl)) dss_nil)
  (dss_one (ds_asg sc_nd (de_pv (pv 3)))))))
  (dss_one (ds_ret (de_blt (cd_all rfl) (G.free 2 rfl) bt_all (da_cons (de_lc rfl sc_nd (di_zip (G.free 15 rfl) (da_cons (de_pv (pv 0)) (da_cons (de_slc (de_pv (pv 0)) (dp_some de_int) dp_no) da_nil))) (own := [("one", 4), ("other", 5)]) (by rfl) (fun _ _ _ _ _ => (dg_tup rfl (dgs_cons (dg_name sc_nd) (dgs_cons (dg_name sc_nd) dgs_nil)))) (fun _ _ _ _ _ => dts_nil) (fun _ _ _ _ _ => (de_cmp (od_lt hu) (de_idx hu (de_pv (pv 4)) de_int) (de_idx hu (de_pv (pv 5)) de_int)))) da_nil))))))) meets_do_change
theorem sc_is_skyline : FnScope ["thing", "change"] ["thing"] (defScope (top 32)) := ⟨rfl, rfl, rfl, by decide +kernel, rfl, by decide +kernel, by decide +kernel⟩
theorem ok_is_skyline (G : GG K mg) (F_do_change : Fn hv P w K mg base 1 "do_change" ["changes"] sp_do_change) (F_is_change : Fn hv P w K mg base 3 "is_change" ["thing"] sp_is_change) : Fn hv P w K mg base 4 "is_skyline" ["thing"] sp_is_skyline :=
  fn_ok (m := m_is_skyline) (G.df 22 (top 32) "is_skyline" rfl rfl) sc_is_skyline sp1_len (fun _ _ _ _ _ _ us hl => match us, hl with | [_], _ => rfl) (fun f cdv A outer s H E hr hgd => by
    have hu := hr.units
    have hu8 := u80 hr
    have sc_nd := sc_is_skyline.nd
    exact (dss_cons (ds_if (dt_w (dw_or (dt_not (dt_tru (de_isa isa_tuple (G.free 6 rfl) (G.free 14 rfl) bt_tuple (de_pv (pv 0))))) (dw_or1 (dt_not (dt_tru (de_blt (cd_all rfl) (G.free 2 rfl) bt_all (da_cons (de_lc rfl sc_nd (di_seq (de_pv (pv 0))) (own := [("change", 1)]) (by rfl) (fun _ _ _ _ _ => (dg_name sc_nd)) (fun _ _ _ _ _ => dts_nil) (fun _ _ _ _ _ => (de_fn (F_is_change.mono (by decide)) hr hgd (da_cons (de_pv (pv 1)) da_nil)))) da_nil))))))) (dss_one (ds_ret de_bl)) dss_nil)
  (dss_one (ds_ret (de_and (de_fn (F_do_change.mono (by decide)) hr hgd (da_cons (de_pv (pv 0)) da_nil)) (de_one (de_or (de_cmp (od_eq hu) (de_blt (cd_len) (G.free 7 rfl) bt_len (da_cons (de_pv (pv 0)) da_nil)) de_int) (de_one (de_cmp (od_eq hu) (de_idx hu (de_idx hu (de_pv (pv 0)) (de_neg de_int)) de_int) de_int))))))))) meets_is_skyline
theorem sc__law_some : FnScope ["hand", "things"] ["hand", "things"] (defScope (top 36)) := ⟨rfl, rfl, rfl, by decide +kernel, rfl, by decide +kernel, by decide +kernel⟩
theorem ok__law_some (G : GG K mg) (F__law_draw : Fn hv P w K mg base 1 "_law_draw" ["hand", "size"] sp__law_draw) : Fn hv P w K mg base 2 "_law_some" ["hand", "things"] sp__law_some :=
  fn_ok (m := m__law_some) (G.df 25 (top 36) "_law_some" rfl rfl) sc__law_some sp2_len (fun _ _ _ _ _ _ us hl => match us, hl with | [_, _], _ => rfl) (fun f cdv A outer s H E hr hgd => by
    have hu := hr.units
    have hu8 := u80 hr
    have sc_nd := sc__law_some.nd
    exact (dss_one (ds_ret (de_idx hu (de_pv (pv 1)) (de_fn (F__law_draw.mono (by decide)) hr hgd (da_cons (de_pv (pv 0)) (da_cons (de_blt (cd_len) (G.free 7 rfl) bt_len (da_cons (de_pv (pv 1)) da_nil)) da_nil))))))) meets__law_some
theorem sc__law_is_int : FnScope ["thing"] ["thing"] (defScope (top 37)) := ⟨rfl, rfl, rfl, by decide +kernel, rfl, by decide +kernel, by decide +kernel⟩
theorem ok__law_is_int (G : GG K mg)  : Fn hv P w K mg base 1 "_law_is_int" ["thing"] sp__law_is_int :=
  fn_ok (m := m__law_is_int) (G.df 26 (top 37) "_law_is_int" rfl rfl) sc__law_is_int sp1_len (fun _ _ _ _ _ _ us hl => match us, hl with | [_], _ => rfl) (fun f cdv A outer s H E hr hgd => by
    have hu := hr.units
    have hu8 := u80 hr
    have sc_nd := sc__law_is_int.nd
    exact (dss_one (ds_ret (de_and (de_isa isa_int (G.free 6 rfl) (G.free 5 rfl) bt_int (de_pv (pv 0))) (de_one (de_not (de_isa isa_bool (G.free 6 rfl) (G.free 3 rfl) bt_bool (de_pv (pv 0))))))))) meets__law_is_int
theorem sc__law_deep : FnScope ["hand", "found", "turn"] ["hand"] (defScope (top 38)) := ⟨rfl, rfl, rfl, by decide +kernel, rfl, by decide +kernel, by decide +kernel⟩
theorem ok__law_deep (G : GG K mg) (F__law_draw : Fn hv P w K mg base 1 "_law_draw" ["hand", "size"] sp__law_draw) (F__law_some : Fn hv P w K mg base 2 "_law_some" ["hand", "things"] sp__law_some) : Fn hv P w K mg base 3 "_law_deep" ["hand"] sp__law_deep :=
  fn_ok (m := m__law_deep) (G.df 27 (top 38) "_law_deep" rfl rfl) sc__law_deep sp1_len (fun _ _ _ _ _ _ us hl => match us, hl with | [_], _ => rfl) (fun f cdv A outer s H E hr hgd => by
    have hu := hr.units
    have hu8 := u80 hr
    have sc_nd := sc__law_deep.nd
    exact (dss_cons (ds_asg sc_nd (de_fn (F__law_some.mono (by decide)) hr hgd (da_cons (de_pv (pv 0)) (da_cons (de_lst (da_cons de_non (da_cons de_str (da_cons de_dict0 da_nil)))) da_nil))))
  (dss_cons (ds_weak (ds_for .never rfl (di_rng1 (G.free 10 rfl) (da_cons (de_op od_add de_int (de_fn (F__law_draw.mono (by decide)) hr hgd (da_cons (de_pv (pv 0)) (da_cons de_int da_nil)))) da_nil)) (dg_name sc_nd) (bt_name 2) (dss_one (ds_asg sc_nd (de_idx hu (de_lst (da_cons (de_tup (da_cons (de_pv (pv 1)) da_nil)) (da_cons (de_lst (da_cons (de_pv (pv 1)) da_nil)) (da_cons (de_disp1 de_int (de_pv (pv 1))) da_nil)))) (de_fn (F__law_draw.mono (by decide)) hr hgd (da_cons (de_pv (pv 0)) (da_cons de_int da_nil))))))))
  (dss_one (ds_retV (pv 1)))))) meets__law_deep
theorem sc__law_jets : FnScope ["hand", "most", "far_now", "tall", "found", "number", "left"] ["hand", "most"] (defScope (top 39)) := ⟨rfl, rfl, rfl, by decide +kernel, rfl, by decide +kernel, by decide +kernel⟩
theorem ok__law_jets (G : GG K mg) (F__law_draw : Fn hv P w K mg base 1 "_law_draw" ["hand", "size"] sp__law_draw) (F__law_some : Fn hv P w K mg base 2 "_law_some" ["hand", "things"] sp__law_some) : Fn hv P w K mg base 3 "_law_jets" ["hand", "most"] sp__law_jets :=
  fn_ok (m := m__law_jets) (G.df 28 (top 39) "_law_jets" rfl rfl) sc__law_jets sp2_len (fun _ _ _ _ _ _ us hl => match us, hl with | [_, _], _ => rfl) (fun f cdv A outer s H E hr hgd => by
    have hu := hr.units
    have hu8 := u80 hr
    have sc_nd := sc__law_jets.nd
    exact (dss_cons (ds_par3 rfl sc_nd (da2_cons (de_fn (F__law_some.mono (by decide)) hr hgd (da_cons (de_pv (pv 0)) (da_cons (de_lst (da_cons de_int (da_cons de_int (da_cons de_int da_nil)))) da_nil))) (da2_cons (de_fn (F__law_some.mono (by decide)) hr hgd (da_cons (de_pv (pv 0)) (da_cons (de_lst (da_cons de_int (da_cons de_int (da_cons de_int da_nil)))) da_nil))) (da2_cons (de_lst da_nil) da2_nil))))
  (dss_cons (ds_weak (ds_for .never rfl (di_rng1 (G.free 10 rfl) (da_cons (de_fn (F__law_draw.mono (by decide)) hr hgd (da_cons (de_pv (pv 0)) (da_cons (de_op od_add (de_pv (pv 1)) de_int) da_nil))) da_nil)) (dg_name sc_nd) (bt_name 5) (dss_cons (ds_asg sc_nd (de_fn (F__law_draw.mono (by decide)) hr hgd (da_cons (de_pv (pv 0)) (da_cons (de_pv (pv 2)) da_nil))))
  (dss_one (ds_app (pv 4) (de_tup (da_cons (de_pv (pv 6)) (da_cons (de_op od_add (de_op od_add (de_pv (pv 6)) de_int) (de_fn (F__law_draw.mono (by decide)) hr hgd (da_cons (de_pv (pv 0)) (da_cons (de_op od_sub (de_pv (pv 2)) (de_pv (pv 6))) da_nil)))) (da_cons (de_op od_add de_int (de_fn (F__law_draw.mono (by decide)) hr hgd (da_cons (de_pv (pv 0)) (da_cons (de_pv (pv 3)) da_nil)))) da_nil)))))))))
  (dss_one (ds_ret (de_bty (cd_tuple) (G.free 14 rfl) bt_tuple (da_cons (de_pv (pv 4)) da_nil))))))) meets__law_jets
theorem sc__law_heights : FnScope ["jets", "place", "left", "right", "high"] ["jets"] (defScope (top 40)) := ⟨rfl, rfl, rfl, by decide +kernel, rfl, by decide +kernel, by decide +kernel⟩
theorem ok__law_heights (G : GG K mg)  : Fn hv P w K mg base 1 "_law_heights" ["jets"] sp__law_heights :=
  fn_ok (m := m__law_heights) (G.df 29 (top 40) "_law_heights" rfl rfl) sc__law_heights sp1_len (fun _ _ _ _ _ _ us hl => match us, hl with | [_], _ => rfl) (fun f cdv A outer s H E hr hgd => by
    have hu := hr.units
    have hu8 := u80 hr
    have sc_nd := sc__law_heights.nd
    exact (dss_one (ds_ret (de_lc rfl sc_nd (di_rng1 (G.free 10 rfl) (da_cons de_int da_nil)) (own := [("place", 1)]) (by rfl) (fun _ _ _ _ _ => (dg_name sc_nd)) (fun _ _ _ _ _ => dts_nil) (fun _ _ _ _ _ => (de_blt (cd_max rfl hu) (G.free 9 rfl) bt_max (da_cons (de_op od_add (de_lst (da_cons de_int da_nil)) (de_lc rfl sc_nd (di_seq (de_pv (pv 0))) (own := [("left", 2), ("right", 3), ("high", 4)]) (by rfl) (fun _ _ _ _ _ => (dg_tup rfl (dgs_cons (dg_name sc_nd) (dgs_cons (dg_name sc_nd) (dgs_cons (dg_name sc_nd) dgs_nil))))) (fun _ _ _ _ _ => (dts_one (dt_chain (od_le hu) (od_lt hu) (de_pv (pv 2)) (de_pv (pv 1)) (de_pv (pv 3))))) (fun _ _ _ _ _ => (de_pv (pv 4))))) da_nil))))))) meets__law_heights
theorem sc__law_skyline : FnScope ["jets", "heights", "steps_now", "place"] ["jets"] (defScope (top 41)) := ⟨rfl, rfl, rfl, by decide +kernel, rfl, by decide +kernel, by decide +kernel⟩
theorem ok__law_skyline (G : GG K mg) (F__law_heights : Fn hv P w K mg base 1 "_law_heights" ["jets"] sp__law_heights) : Fn hv P w K mg base 2 "_law_skyline" ["jets"] sp__law_skyline :=
  fn_ok (m := m__law_skyline) (G.df 30 (top 41) "_law_skyline" rfl rfl) sc__law_skyline sp1_len (fun _ _ _ _ _ _ us hl => match us, hl with | [_], _ => rfl) (fun f cdv A outer s H E hr hgd => by
    have hu := hr.units
    have hu8 := u80 hr
    have sc_nd := sc__law_skyline.nd
    exact (dss_cons (ds_asg sc_nd (de_op od_add (de_lst (da_cons de_int da_nil)) (de_fn (F__law_heights.mono (by decide)) hr hgd (da_cons (de_pv (pv 0)) da_nil))))
  (dss_cons (by first | exact (ds_asgLc rfl sc_nd (di_rng1 (G.free 10 rfl) (da_cons de_int da_nil)) (own := [("place", 3)]) (by rfl) (fun _ _ _ _ _ => (dg_name sc_nd)) (fun _ _ _ _ _ => (dts_one (dt_cmp (od_ne hu) (de_idx hu (de_pv (pv 1)) (de_op od_add (de_pv (pv 3)) de_int)) (de_idx hu (de_pv (pv 1)) (de_pv (pv 3)))))) (fun _ _ _ _ _ => (de_tup (da_cons (de_pv (pv 3)) (da_cons (de_idx hu (de_pv (pv 1)) (de_op od_add (de_pv (pv 3)) de_int)) da_nil))))) | exact (ds_asg sc_nd (de_lc rfl sc_nd (di_rng1 (G.free 10 rfl) (da_cons de_int da_nil)) (own := [("place", 3)]) (by rfl) (fun _ _ _ _ _ => (dg_name sc_nd)) (fun _ _ _ _ _ => (dts_one (dt_cmp (od_ne hu) (de_idx hu (de_pv (pv 1)) (de_op od_add (de_pv (pv 3)) de_int)) (de_idx hu (de_pv (pv 1)) (de_pv (pv 3)))))) (fun _ _ _ _ _ => (de_tup (da_cons (de_pv (pv 3)) (da_cons (de_idx hu (de_pv (pv 1)) (de_op od_add (de_pv (pv 3)) de_int)) da_nil)))))))
  (dss_one (ds_ret (de_bty (cd_tuple) (G.free 14 rfl) bt_tuple (da_cons (de_pv (pv 2)) da_nil))))))) meets__law_skyline
theorem sc__law_no_jets : FnScope ["hand", "some"] ["hand"] (defScope (top 42)) := ⟨rfl, rfl, rfl, by decide +kernel, rfl, by decide +kernel, by decide +kernel⟩
theorem ok__law_no_jets (G : GG K mg) (F__law_deep : Fn hv P w K mg base 3 "_law_deep" ["hand"] sp__law_deep) (F__law_some : Fn hv P w K mg base 2 "_law_some" ["hand", "things"] sp__law_some) : Fn hv P w K mg base 4 "_law_no_jets" ["hand"] sp__law_no_jets :=
  fn_ok (m := m__law_no_jets) (G.df 31 (top 42) "_law_no_jets" rfl rfl) sc__law_no_jets sp1_len (fun _ _ _ _ _ _ us hl => match us, hl with | [_], _ => rfl) (fun f cdv A outer s H E hr hgd => by
    have hu := hr.units
    have hu8 := u80 hr
    have sc_nd := sc__law_no_jets.nd
    exact (dss_cons (ds_asg sc_nd (de_lst (da_cons de_non (da_cons de_int (da_cons (de_lst (da_cons (de_tup (da_cons de_int (da_cons de_int (da_cons de_int da_nil)))) da_nil)) (da_cons (de_tup (da_cons (de_tup (da_cons de_int (da_cons de_int (da_cons de_int da_nil)))) da_nil)) (da_cons (de_tup (da_cons (de_tup (da_cons de_int (da_cons de_int (da_cons de_int da_nil)))) da_nil)) (da_cons (de_tup (da_cons (de_tup (da_cons de_int (da_cons de_int (da_cons de_int da_nil)))) da_nil)) (da_cons (de_tup (da_cons (de_tup (da_cons de_int (da_cons de_int (da_cons de_int da_nil)))) da_nil)) (da_cons (de_tup (da_cons (de_tup (da_cons de_int (da_cons de_int da_nil))) da_nil)) da_nil))))))))))
  (dss_cons (ds_asg sc_nd (de_op od_add (de_pv (pv 1)) (de_lst (da_cons (de_tup (da_cons (de_tup (da_cons (de_neg de_int) (da_cons de_int (da_cons de_int da_nil)))) da_nil)) (da_cons (de_tup (da_cons de_int (da_cons de_int (da_cons de_int da_nil)))) (da_cons de_dict0 da_nil))))))
  (dss_cons (ds_asg sc_nd (de_op od_add (de_pv (pv 1)) (de_lst (da_cons (de_tup (da_cons (de_tup (da_cons de_bl (da_cons de_int (da_cons de_int da_nil)))) da_nil)) (da_cons (de_tup (da_cons (de_tup (da_cons de_int (da_cons de_int (da_cons de_non da_nil)))) da_nil)) (da_cons (de_op od_mulU (de_tup (da_cons (de_tup (da_cons de_int (da_cons de_int (da_cons de_int da_nil)))) da_nil)) de_int) (da_cons (de_tup (da_cons (de_lst (da_cons de_int (da_cons de_int (da_cons de_int da_nil)))) da_nil)) (da_cons de_str da_nil))))))))
  (dss_one (ds_ret (de_fn (F__law_some.mono (by decide)) hr hgd (da_cons (de_pv (pv 0)) (da_cons (de_op od_add (de_pv (pv 1)) (de_lst (da_cons (de_fn (F__law_deep.mono (by decide)) hr hgd (da_cons (de_pv (pv 0)) da_nil)) da_nil))) da_nil))))))))) meets__law_no_jets
theorem sc__law_word : FnScope ["ask_now", "found", "e", "flags"] ["ask_now"] (defScope (top 43)) := ⟨rfl, rfl, rfl, by decide +kernel, rfl, by decide +kernel, by decide +kernel⟩
theorem ok__law_word (G : GG K mg) (EX : ExF excs allx K mg) : Wrd hv P w K mg base 0 "_law_word" sp__law_word :=
  wrd_ok (m := m__law_word) (G.df 32 (top 43) "_law_word" rfl rfl) sc__law_word ⟨rfl, .inl rfl, by decide, by decide⟩ (fun _ _ _ _ _ _ us hl => match us, hl with | [_], _ => rfl) (fun g cdv A outer s H F f c' q tl O hr hgd act hF does => by
    have hu := hr.units
    have hu8 := u80 hr
    have sc_nd := sc__law_word.nd
    exact (dssf_cons (dsf_of (ds_asg sc_nd de_str))
  (dssf_cons (dsf_try (i := 2) act hF does EX sc_nd rfl rfl rfl rfl rfl (fun ea oe pn x hx hz hf => (dss_cons (ds_asg sc_nd (de_lst (da_cons (de_isE (k := 0) EX hx rfl hz hf (pv 2) (G.free 6 rfl)) (da_cons (de_isE (k := 1) EX hx rfl hz hf (pv 2) (G.free 6 rfl)) da_nil))))
  (dss_cons (ds_asg sc_nd de_str)
  (dss_one (ds_if (dt_w (dw_and (dt_cmp (od_eq hu) (de_countL hu8 (de_pv (pv 3)) de_bl) de_int) (dw_and1 (dt_tru (de_isV EX hx hz hf (pv 2) (G.free 6 rfl) (G.free 0 rfl)))))) (dss_one (ds_asg sc_nd (de_idx hu (de_lst (da_cons de_str (da_cons de_str da_nil))) (de_index hu8 (de_pv (pv 3)) de_bl)))) dss_nil))))))
  (dssf_one (dsf_of (ds_retV (pv 1))))))) meets__law_word
theorem sc__law_fewest : FnScope ["jets", "lots", "due", "number", "lot", "size"] ["jets"] (defScope (top 44)) := ⟨rfl, rfl, rfl, by decide +kernel, rfl, by decide +kernel, by decide +kernel⟩
theorem ok__law_fewest (G : GG K mg) (F__law_skyline : Fn hv P w K mg base 2 "_law_skyline" ["jets"] sp__law_skyline) : Fn hv P w K mg base 3 "_law_fewest" ["jets"] sp__law_fewest :=
  fn_ok (m := m__law_fewest) (G.df 33 (top 44) "_law_fewest" rfl rfl) sc__law_fewest sp1_len (fun _ _ _ _ _ _ us hl => match us, hl with | [_], _ => rfl) (fun f cdv A outer s H E hr hgd => by
    have hu := hr.units
    have hu8 := u80 hr
    have sc_nd := sc__law_fewest.nd
    exact (dss_cons (ds_par rfl sc_nd (da2_cons (de_lst (da_cons (de_tup da_nil) da_nil)) (da2_cons (de_fn (F__law_skyline.mono (by decide)) hr hgd (da_cons (de_pv (pv 0)) da_nil)) da2_nil)))
  (dss_cons (ds_weak (ds_for .never rfl (di_rng1 (G.free 10 rfl) (da_cons (de_blt (cd_len) (G.free 7 rfl) bt_len (da_cons (de_pv (pv 0)) da_nil)) da_nil)) (dg_name sc_nd) (bt_name 3) (dss_one (ds_asg sc_nd (de_op od_add (de_pv (pv 1)) (de_lc rfl sc_nd (di_seq (de_pv (pv 1))) (own := [("lot", 4)]) (by rfl) (fun _ _ _ _ _ => (dg_name sc_nd)) (fun _ _ _ _ _ => dts_nil) (fun _ _ _ _ _ => (de_op od_add (de_pv (pv 4)) (de_tup (da_cons (de_pv (pv 3)) da_nil))))))))))
  (dss_cons (ds_weak (ds_for .never rfl (di_seq (de_blt (cd_sortedX rfl hu8) (G.free 12 rfl) bt_sorted (da_cons (de_lc rfl sc_nd (di_seq (de_pv (pv 1))) (own := [("lot", 4)]) (by rfl) (fun _ _ _ _ _ => (dg_name sc_nd)) (fun _ _ _ _ _ => dts_nil) (fun _ _ _ _ _ => (de_tup (da_cons (de_blt (cd_len) (G.free 7 rfl) bt_len (da_cons (de_pv (pv 4)) da_nil)) (da_cons (de_pv (pv 4)) da_nil))))) da_nil))) (dg_tup rfl (dgs_cons (dg_name sc_nd) (dgs_cons (dg_name sc_nd) dgs_nil))) (bt_tup (bts_cons (bt_name 5) (bts_cons (bt_name 4) bts_nil))) (dss_one (ds_if (dt_cmp (od_eq hu) (de_fn (F__law_skyline.mono (by decide)) hr hgd (da_cons (de_bty (cd_tuple) (G.free 14 rfl) bt_tuple (da_cons (de_lc rfl sc_nd (di_seq (de_pv (pv 4))) (own := [("number", 3)]) (by rfl) (fun _ _ _ _ _ => (dg_name sc_nd)) (fun _ _ _ _ _ => dts_nil) (fun _ _ _ _ _ => (de_idx hu (de_pv (pv 0)) (de_pv (pv 3))))) da_nil)) da_nil)) (de_pv (pv 2))) (dss_one (ds_retV (pv 4))) dss_nil))))
  (dss_one (ds_ret de_non)))))) meets__law_fewest
theorem sc__law_is_line : FnScope ["thing", "high", "last", "pair"] ["thing"] (defScope (top 45)) := ⟨rfl, rfl, rfl, by decide +kernel, rfl, by decide +kernel, by decide +kernel⟩
theorem ok__law_is_line (G : GG K mg) (F__law_is_int : Fn hv P w K mg base 1 "_law_is_int" ["thing"] sp__law_is_int) : Fn hv P w K mg base 2 "_law_is_line" ["thing"] sp__law_is_line :=
  fn_ok (m := m__law_is_line) (G.df 34 (top 45) "_law_is_line" rfl rfl) sc__law_is_line sp1_len (fun _ _ _ _ _ _ us hl => match us, hl with | [_], _ => rfl) (fun f cdv A outer s H E hr hgd => by
    have hu := hr.units
    have hu8 := u80 hr
    have sc_nd := sc__law_is_line.nd
    exact (dss_cons (ds_if (dt_not (dt_tru (de_isa isa_tuple (G.free 6 rfl) (G.free 14 rfl) bt_tuple (de_pv (pv 0))))) (dss_one (ds_ret de_bl)) dss_nil)
  (dss_cons (ds_parT rfl (da2_cons de_int (da2_cons (de_neg de_int) da2_nil)) (pgn_cons sc_nd (pgn_cons sc_nd pgn_nil)))
  (dss_cons (ds_weak (ds_for .never rfl (di_seq (de_pv (pv 0))) (dg_name sc_nd) (bt_name 3) (dss_cons (ds_if (dt_w (dw_or (dt_not (dt_tru (de_isa isa_tuple (G.free 6 rfl) (G.free 14 rfl) bt_tuple (de_pv (pv 3))))) (dw_or (dt_cmp (od_ne hu) (de_blt (cd_len) (G.free 7 rfl) bt_len (da_cons (de_pv (pv 3)) da_nil)) de_int) (dw_or (dt_not (dt_tru (de_fn (F__law_is_int.mono (by decide)) hr hgd (da_cons (de_idx hu (de_pv (pv 3)) de_int) da_nil)))) (dw_or1 (dt_not (dt_tru (de_fn (F__law_is_int.mono (by decide)) hr hgd (da_cons (de_idx hu (de_pv (pv 3)) de_int) da_nil))))))))) (dss_one (ds_ret de_bl)) dss_nil)
  (dss_cons (ds_if (dt_w (dw_or (dt_not (dt_chain (od_lt hu) (od_le hu) (de_pv (pv 2)) (de_idx hu (de_pv (pv 3)) de_int) de_int)) (dw_or (dt_not (dt_chain (od_le hu) (od_le hu) de_int (de_idx hu (de_pv (pv 3)) de_int) de_int)) (dw_or1 (dt_cmp (od_eq hu) (de_idx hu (de_pv (pv 3)) de_int) (de_pv (pv 1))))))) (dss_one (ds_ret de_bl)) dss_nil)
  (dss_one (ds_unp (de_pv (pv 3)) (dg_tup rfl (dgs_cons (dg_name sc_nd) (dgs_cons (dg_name sc_nd) dgs_nil))) (bt_tup (bts_cons (bt_name 2) (bts_cons (bt_name 1) bts_nil)))))))))
  (dss_one (ds_ret (de_cmp (od_eq hu) (de_pv (pv 1)) de_int))))))) meets__law_is_line
theorem sc__law_bent : FnScope ["hand", "line", "spot", "here", "odds", "odd", "some"] ["hand", "line"] (defScope (top 46)) := ⟨rfl, rfl, rfl, by decide +kernel, rfl, by decide +kernel, by decide +kernel⟩
theorem ok__law_bent (G : GG K mg) (F__law_deep : Fn hv P w K mg base 3 "_law_deep" ["hand"] sp__law_deep) (F__law_draw : Fn hv P w K mg base 1 "_law_draw" ["hand", "size"] sp__law_draw) (F__law_some : Fn hv P w K mg base 2 "_law_some" ["hand", "things"] sp__law_some) : Fn hv P w K mg base 4 "_law_bent" ["hand", "line"] sp__law_bent :=
  fn_ok (m := m__law_bent) (G.df 35 (top 46) "_law_bent" rfl rfl) sc__law_bent sp2_len (fun _ _ _ _ _ _ us hl => match us, hl with | [_, _], _ => rfl) (fun f cdv A outer s H E hr hgd => by
    have hu := hr.units
    have hu8 := u80 hr
    have sc_nd := sc__law_bent.nd
    exact (dss_cons (ds_asg sc_nd (de_fn (F__law_draw.mono (by decide)) hr hgd (da_cons (de_pv (pv 0)) (da_cons (de_op od_add (de_blt (cd_len) (G.free 7 rfl) bt_len (da_cons (de_pv (pv 1)) da_nil)) de_int) da_nil))))
  (dss_cons (ds_asg sc_nd (de_ite (dt_cmp (od_lt hu) (de_pv (pv 2)) (de_blt (cd_len) (G.free 7 rfl) bt_len (da_cons (de_pv (pv 1)) da_nil))) (de_idx hu (de_pv (pv 1)) (de_pv (pv 2))) (de_tup (da_cons de_int (da_cons de_int da_nil)))))
  (dss_cons (ds_asg sc_nd (de_lst (da_cons (de_tup (da_cons (de_idx hu (de_pv (pv 3)) de_int) (da_cons (de_op od_add (de_idx hu (de_pv (pv 3)) de_int) de_int) da_nil))) (da_cons (de_tup (da_cons (de_op od_add (de_idx hu (de_pv (pv 3)) de_int) de_int) (da_cons (de_idx hu (de_pv (pv 3)) de_int) da_nil))) (da_cons (de_tup (da_cons (de_idx hu (de_pv (pv 3)) de_int) (da_cons de_int da_nil))) (da_cons (de_tup (da_cons de_int (da_cons (de_idx hu (de_pv (pv 3)) de_int) da_nil))) da_nil))))))
  (dss_cons (ds_asg sc_nd (de_op od_add (de_pv (pv 4)) (de_lst (da_cons (de_tup (da_cons (de_idx hu (de_pv (pv 3)) de_int) (da_cons de_bl da_nil))) (da_cons (de_bty (cd_list) (G.free 8 rfl) bt_list (da_cons (de_pv (pv 3)) da_nil)) (da_cons (de_slc (de_pv (pv 3)) dp_no (dp_some de_int)) da_nil))))))
  (dss_cons (ds_asg sc_nd (de_fn (F__law_some.mono (by decide)) hr hgd (da_cons (de_pv (pv 0)) (da_cons (de_op od_add (de_pv (pv 4)) (de_lst (da_cons (de_tup (da_cons (de_idx hu (de_pv (pv 3)) de_int) (da_cons de_int da_nil))) (da_cons (de_rev (de_pv (pv 3))) (da_cons de_non (da_cons (de_tup (da_cons de_int (da_cons de_int da_nil))) (da_cons (de_tup (da_cons (de_neg de_int) (da_cons de_int da_nil))) da_nil))))))) da_nil))))
  (dss_cons (ds_asg sc_nd (de_lst (da_cons (de_pv (pv 1)) (da_cons (de_op od_add (de_op od_add (de_slc (de_pv (pv 1)) dp_no (dp_some (de_pv (pv 2)))) (de_tup (da_cons (de_pv (pv 5)) da_nil))) (de_slc (de_pv (pv 1)) (dp_some (de_op od_add (de_pv (pv 2)) de_int)) dp_no)) (da_cons (de_op od_add (de_op od_add (de_slc (de_pv (pv 1)) dp_no (dp_some (de_pv (pv 2)))) (de_tup (da_cons (de_pv (pv 5)) da_nil))) (de_slc (de_pv (pv 1)) (dp_some (de_pv (pv 2))) dp_no)) da_nil)))))
  (dss_cons (ds_asg sc_nd (de_op od_add (de_pv (pv 6)) (de_lst (da_cons (de_op od_add (de_slc (de_pv (pv 1)) dp_no (dp_some (de_pv (pv 2)))) (de_slc (de_pv (pv 1)) (dp_some (de_op od_add (de_pv (pv 2)) de_int)) dp_no)) (da_cons (de_rev (de_pv (pv 1))) da_nil)))))
  (dss_one (ds_ret (de_fn (F__law_some.mono (by decide)) hr hgd (da_cons (de_pv (pv 0)) (da_cons (de_op od_add (de_pv (pv 6)) (de_lst (da_cons (de_bty (cd_list) (G.free 8 rfl) bt_list (da_cons (de_pv (pv 1)) da_nil)) (da_cons (de_op od_add (de_pv (pv 1)) (de_tup (da_cons (de_tup (da_cons de_int (da_cons de_int da_nil))) da_nil))) (da_cons (de_slc (de_pv (pv 1)) dp_no (dp_some (de_neg de_int))) (da_cons de_non (da_cons de_int (da_cons de_dict0 (da_cons de_str (da_cons (de_fn (F__law_deep.mono (by decide)) hr hgd (da_cons (de_pv (pv 0)) da_nil)) da_nil)))))))))) da_nil))))))))))))) meets__law_bent
theorem sc__law_is_right : FnScope ["hand", "jets", "order", "high", "number", "jet", "due", "line", "step", "thing"] ["hand", "jets"] (defScope (top 47)) := ⟨rfl, rfl, rfl, by decide +kernel, rfl, by decide +kernel, by decide +kernel⟩
theorem ok__law_is_right (G : GG K mg) (F__law_bent : Fn hv P w K mg base 4 "_law_bent" ["hand", "line"] sp__law_bent) (F__law_fewest : Fn hv P w K mg base 3 "_law_fewest" ["jets"] sp__law_fewest) (F__law_is_line : Fn hv P w K mg base 2 "_law_is_line" ["thing"] sp__law_is_line) (F_fewest_for : Fn hv P w K mg base 5 "fewest_for" ["jets"] sp_fewest_for) (F_is_skyline : Fn hv P w K mg base 4 "is_skyline" ["thing"] sp_is_skyline) (F_skyline : Fn hv P w K mg base 5 "skyline" ["jets"] sp_skyline) (F_tallest_order : Fn hv P w K mg base 5 "tallest_order" ["jets"] sp_tallest_order) : Fn hv P w K mg base 6 "_law_is_right" ["hand", "jets"] sp__law_is_right :=
  fn_ok (m := m__law_is_right) (G.df 36 (top 47) "_law_is_right" rfl rfl) sc__law_is_right sp2_len (fun _ _ _ _ _ _ us hl => match us, hl with | [_, _], _ => rfl) (fun f cdv A outer s H E hr hgd => by
    have hu := hr.units
    have hu8 := u80 hr
    have sc_nd := sc__law_is_right.nd
    exact (dss_cons (ds_asg sc_nd (de_bty (cd_tuple) (G.free 14 rfl) bt_tuple (da_cons (de_lc rfl sc_nd (di_seq (de_blt (cd_sortedX rfl hu8) (G.free 12 rfl) bt_sorted (da_cons (de_lc rfl sc_nd (di_enumT (G.free 4 rfl) (da_cons (de_pv (pv 1)) da_nil)) (own := [("number", 4), ("jet", 5)]) (by rfl) (fun _ _ _ _ _ => (dg_tup rfl (dgs_cons (dg_name sc_nd) (dgs_cons (dg_name sc_nd) dgs_nil)))) (fun _ _ _ _ _ => dts_nil) (fun _ _ _ _ _ => (de_tup (da_cons (de_op od_sub de_int (de_idx hu (de_pv (pv 5)) de_int)) (da_cons (de_pv (pv 4)) da_nil))))) da_nil))) (own := [("high", 3), ("number", 4)]) (by rfl) (fun _ _ _ _ _ => (dg_tup rfl (dgs_cons (dg_name sc_nd) (dgs_cons (dg_name sc_nd) dgs_nil)))) (fun _ _ _ _ _ => dts_nil) (fun _ _ _ _ _ => (de_pv (pv 4)))) da_nil)))
  (dss_cons (ds_asg sc_nd (de_fn (F__law_fewest.mono (by decide)) hr hgd (da_cons (de_pv (pv 1)) da_nil)))
  (dss_cons (ds_if (dt_cmp (od_ne hu) (de_blt (cd_reprE hgd hu) (G.free 11 rfl) bt_repr (da_cons (de_lst (da_cons (de_fn (F_tallest_order.mono (by decide)) hr hgd (da_cons (de_pv (pv 1)) da_nil)) (da_cons (de_fn (F_fewest_for.mono (by decide)) hr hgd (da_cons (de_pv (pv 1)) da_nil)) (da_cons (de_fn (F_fewest_for.mono (by decide)) hr hgd (da_cons (de_pv (pv 1)) da_nil)) da_nil)))) da_nil)) (de_blt (cd_reprE hgd hu) (G.free 11 rfl) bt_repr (da_cons (de_lst (da_cons (de_pv (pv 2)) (da_cons (de_pv (pv 6)) (da_cons (de_pv (pv 6)) da_nil)))) da_nil))) (dss_one (ds_ret de_bl)) dss_nil)
  (dss_cons (ds_asg sc_nd (de_fn (F_skyline.mono (by decide)) hr hgd (da_cons (de_pv (pv 1)) da_nil)))
  (dss_cons (ds_if (dt_w (dw_or (dt_cmp (od_ne hu) (de_fn (F_skyline.mono (by decide)) hr hgd (da_cons (de_bty (cd_tuple) (G.free 14 rfl) bt_tuple (da_cons (de_lc rfl sc_nd (di_seq (de_pv (pv 6))) (own := [("number", 4)]) (by rfl) (fun _ _ _ _ _ => (dg_name sc_nd)) (fun _ _ _ _ _ => dts_nil) (fun _ _ _ _ _ => (de_idx hu (de_pv (pv 1)) (de_pv (pv 4))))) da_nil)) da_nil)) (de_pv (pv 7))) (dw_or1 (dt_cmp od_isNot (de_fn (F_is_skyline.mono (by decide)) hr hgd (da_cons (de_pv (pv 7)) da_nil)) de_bl)))) (dss_one (ds_ret de_bl)) dss_nil)
  (dss_cons (ds_weak (ds_for .never rfl (di_rng1 (G.free 10 rfl) (da_cons de_int da_nil)) (dg_name sc_nd) (bt_name 8) (dss_cons (ds_asg sc_nd (de_fn (F__law_bent.mono (by decide)) hr hgd (da_cons (de_pv (pv 0)) (da_cons (de_pv (pv 7)) da_nil))))
  (dss_one (ds_if (dt_cmp (od_ne hu) (de_blt (cd_reprE hgd hu) (G.free 11 rfl) bt_repr (da_cons (de_fn (F_is_skyline.mono (by decide)) hr hgd (da_cons (de_pv (pv 9)) da_nil)) da_nil)) (de_blt (cd_reprE hgd hu) (G.free 11 rfl) bt_repr (da_cons (de_fn (F__law_is_line.mono (by decide)) hr hgd (da_cons (de_pv (pv 9)) da_nil)) da_nil))) (dss_one (ds_ret de_bl)) dss_nil)))))
  (dss_one (ds_ret de_bl))))))))) meets__law_is_right
theorem okx_check_jets (G : GG K mg) (EX : ExF excs allx K mg) (F_is_jet : Fn hv P w K mg base 3 "is_jet" ["thing"] sp_is_jet) : FnX hv P w K mg base 4 "check_jets" ["jets"] spx_check_jets :=
  fnx_ok (m := xm_check_jets) (G.df 6 (top 16) "check_jets" rfl rfl) sc_check_jets sxp1_len (fun _ _ _ _ _ _ us hl => match us, hl with | [_], _ => rfl) (fun f cdv A outer s H E hr hgd tk => by
    have hu := hr.units
    have hu8 := u80 hr
    have sc_nd := sc_check_jets.nd
    exact (dx_here (dsx_if (dt_w (dw_or (dt_not (dt_tru (de_isa isa_tuple (G.free 6 rfl) (G.free 14 rfl) bt_tuple (de_pv (pv 0))))) (dw_or (dt_cmp (od_gt hu) (de_blt (cd_len) (G.free 7 rfl) bt_len (da_cons (de_pv (pv 0)) da_nil)) (de_gint (G.gint 0 rfl))) (dw_or1 (dt_not (dt_tru (de_blt (cd_all rfl) (G.free 2 rfl) bt_all (da_cons (de_lc rfl sc_nd (di_seq (de_pv (pv 0))) (own := [("jet", 1)]) (by rfl) (fun _ _ _ _ _ => (dg_name sc_nd)) (fun _ _ _ _ _ => dts_nil) (fun _ _ _ _ _ => (de_fn (F_is_jet.mono (by decide)) hr hgd (da_cons (de_pv (pv 1)) da_nil)))) da_nil)))))))) (dx_here (dsx_raise (k := 0) EX rfl tk)) dx_none))) meetsx_check_jets
theorem sc_area : FnScope ["jets"] ["jets"] (defScope (top 24)) := ⟨rfl, rfl, rfl, by decide +kernel, rfl, by decide +kernel, by decide +kernel⟩
theorem okx_area (G : GG K mg) (EX : ExF excs allx K mg) (FX_check_jets : FnX hv P w K mg base 4 "check_jets" ["jets"] spx_check_jets) : FnX hv P w K mg base 5 "area" ["jets"] spx_area :=
  fnx_ok (m := xm_area) (G.df 14 (top 24) "area" rfl rfl) sc_area sxp1_len (fun _ _ _ _ _ _ us hl => match us, hl with | [_], _ => rfl) (fun f cdv A outer s H E hr hgd tk => by
    have hu := hr.units
    have hu8 := u80 hr
    have sc_nd := sc_area.nd
    exact (dx_here (dsx_exp (dex_fn (FX_check_jets.mono (by decide)) hr hgd tk (da_cons (de_pv (pv 0)) da_nil))))) meetsx_area
theorem okx_fewest_for (G : GG K mg) (EX : ExF excs allx K mg) (FX_check_jets : FnX hv P w K mg base 4 "check_jets" ["jets"] spx_check_jets) : FnX hv P w K mg base 5 "fewest_for" ["jets"] spx_fewest_for :=
  fnx_ok (m := xm_fewest_for) (G.df 19 (top 29) "fewest_for" rfl rfl) sc_fewest_for sxp1_len (fun _ _ _ _ _ _ us hl => match us, hl with | [_], _ => rfl) (fun f cdv A outer s H E hr hgd tk => by
    have hu := hr.units
    have hu8 := u80 hr
    have sc_nd := sc_fewest_for.nd
    exact (dx_here (dsx_exp (dex_fn (FX_check_jets.mono (by decide)) hr hgd tk (da_cons (de_pv (pv 0)) da_nil))))) meetsx_fewest_for
theorem sc_gaps : FnScope ["jets"] ["jets"] (defScope (top 27)) := ⟨rfl, rfl, rfl, by decide +kernel, rfl, by decide +kernel, by decide +kernel⟩
theorem okx_gaps (G : GG K mg) (EX : ExF excs allx K mg) (FX_check_jets : FnX hv P w K mg base 4 "check_jets" ["jets"] spx_check_jets) : FnX hv P w K mg base 5 "gaps" ["jets"] spx_gaps :=
  fnx_ok (m := xm_gaps) (G.df 17 (top 27) "gaps" rfl rfl) sc_gaps sxp1_len (fun _ _ _ _ _ _ us hl => match us, hl with | [_], _ => rfl) (fun f cdv A outer s H E hr hgd tk => by
    have hu := hr.units
    have hu8 := u80 hr
    have sc_nd := sc_gaps.nd
    exact (dx_here (dsx_exp (dex_fn (FX_check_jets.mono (by decide)) hr hgd tk (da_cons (de_pv (pv 0)) da_nil))))) meetsx_gaps
theorem sc_hidden_jets : FnScope ["jets", "number", "much"] ["jets"] (defScope (top 23)) := ⟨rfl, rfl, rfl, by decide +kernel, rfl, by decide +kernel, by decide +kernel⟩
theorem okx_hidden_jets (G : GG K mg) (EX : ExF excs allx K mg) (FX_check_jets : FnX hv P w K mg base 4 "check_jets" ["jets"] spx_check_jets) : FnX hv P w K mg base 5 "hidden_jets" ["jets"] spx_hidden_jets :=
  fnx_ok (m := xm_hidden_jets) (G.df 13 (top 23) "hidden_jets" rfl rfl) sc_hidden_jets sxp1_len (fun _ _ _ _ _ _ us hl => match us, hl with | [_], _ => rfl) (fun f cdv A outer s H E hr hgd tk => by
    have hu := hr.units
    have hu8 := u80 hr
    have sc_nd := sc_hidden_jets.nd
    exact (dx_here (dsx_exp (dex_fn (FX_check_jets.mono (by decide)) hr hgd tk (da_cons (de_pv (pv 0)) da_nil))))) meetsx_hidden_jets
theorem sc_highest_at : FnScope ["jets", "place"] ["jets", "place"] (defScope (top 25)) := ⟨rfl, rfl, rfl, by decide +kernel, rfl, by decide +kernel, by decide +kernel⟩
theorem okx_highest_at (G : GG K mg) (EX : ExF excs allx K mg) (F_check_jets : Fn hv P w K mg base 4 "check_jets" ["jets"] sp_check_jets) (F_is_within : Fn hv P w K mg base 2 "is_within" ["thing", "least", "most"] sp_is_within) (FX_check_jets : FnX hv P w K mg base 4 "check_jets" ["jets"] spx_check_jets) : FnX hv P w K mg base 5 "highest_at" ["jets", "place"] spx_highest_at :=
  fnx_ok (m := xm_highest_at) (G.df 15 (top 25) "highest_at" rfl rfl) sc_highest_at sxp2_len (fun _ _ _ _ _ _ us hl => match us, hl with | [_, _], _ => rfl) (fun f cdv A outer s H E hr hgd tk => by
    have hu := hr.units
    have hu8 := u80 hr
    have sc_nd := sc_highest_at.nd
    exact (dx_or (dx_here (dsx_exp (dex_fn (FX_check_jets.mono (by decide)) hr hgd tk (da_cons (de_pv (pv 0)) da_nil)))) (dx_then (ds_exp (de_fn (F_check_jets.mono (by decide)) hr hgd (da_cons (de_pv (pv 0)) da_nil)))
  (dx_here (dsx_if (dt_not (dt_tru (de_fn (F_is_within.mono (by decide)) hr hgd (da_cons (de_pv (pv 1)) (da_cons de_int (da_cons (de_op od_sub (de_gint (G.gint 1 rfl)) de_int) da_nil)))))) (dx_here (dsx_raise (k := 1) EX rfl tk)) dx_none))))) meetsx_highest_at
theorem sc_seen_of : FnScope ["jets"] ["jets"] (defScope (top 22)) := ⟨rfl, rfl, rfl, by decide +kernel, rfl, by decide +kernel, by decide +kernel⟩
theorem okx_seen_of (G : GG K mg) (EX : ExF excs allx K mg) (FX_check_jets : FnX hv P w K mg base 4 "check_jets" ["jets"] spx_check_jets) : FnX hv P w K mg base 5 "seen_of" ["jets"] spx_seen_of :=
  fnx_ok (m := xm_seen_of) (G.df 12 (top 22) "seen_of" rfl rfl) sc_seen_of sxp1_len (fun _ _ _ _ _ _ us hl => match us, hl with | [_], _ => rfl) (fun f cdv A outer s H E hr hgd tk => by
    have hu := hr.units
    have hu8 := u80 hr
    have sc_nd := sc_seen_of.nd
    exact (dx_here (dsx_exp (dex_fn (FX_check_jets.mono (by decide)) hr hgd tk (da_cons (de_pv (pv 0)) da_nil))))) meetsx_seen_of
theorem okx_skyline (G : GG K mg) (EX : ExF excs allx K mg) (FX_check_jets : FnX hv P w K mg base 4 "check_jets" ["jets"] spx_check_jets) : FnX hv P w K mg base 5 "skyline" ["jets"] spx_skyline :=
  fnx_ok (m := xm_skyline) (G.df 10 (top 20) "skyline" rfl rfl) sc_skyline sxp1_len (fun _ _ _ _ _ _ us hl => match us, hl with | [_], _ => rfl) (fun f cdv A outer s H E hr hgd tk => by
    have hu := hr.units
    have hu8 := u80 hr
    have sc_nd := sc_skyline.nd
    exact (dx_here (dsx_exp (dex_fn (FX_check_jets.mono (by decide)) hr hgd tk (da_cons (de_pv (pv 0)) da_nil))))) meetsx_skyline
theorem okx_tallest_order (G : GG K mg) (EX : ExF excs allx K mg) (FX_check_jets : FnX hv P w K mg base 4 "check_jets" ["jets"] spx_check_jets) : FnX hv P w K mg base 5 "tallest_order" ["jets"] spx_tallest_order :=
  fnx_ok (m := xm_tallest_order) (G.df 18 (top 28) "tallest_order" rfl rfl) sc_tallest_order sxp1_len (fun _ _ _ _ _ _ us hl => match us, hl with | [_], _ => rfl) (fun f cdv A outer s H E hr hgd tk => by
    have hu := hr.units
    have hu8 := u80 hr
    have sc_nd := sc_tallest_order.nd
    exact (dx_here (dsx_exp (dex_fn (FX_check_jets.mono (by decide)) hr hgd tk (da_cons (de_pv (pv 0)) da_nil))))) meetsx_tallest_order
theorem sc__law_are_refused : FnScope ["hand", "bad", "place", "words", "ask_now"] ["hand"] (defScope (top 48)) := ⟨rfl, rfl, rfl, by decide +kernel, rfl, by decide +kernel, by decide +kernel⟩
theorem ok__law_are_refused (G : GG K mg) (TF : TabF lamds hv K base mg) (F__law_deep : Fn hv P w K mg base 3 "_law_deep" ["hand"] sp__law_deep) (F__law_no_jets : Fn hv P w K mg base 4 "_law_no_jets" ["hand"] sp__law_no_jets) (F__law_some : Fn hv P w K mg base 2 "_law_some" ["hand", "things"] sp__law_some) (F__law_word : Wrd hv P w K mg base 0 "_law_word" sp__law_word) (FX_area : FnX hv P w K mg base 5 "area" ["jets"] spx_area) (FX_fewest_for : FnX hv P w K mg base 5 "fewest_for" ["jets"] spx_fewest_for) (FX_gaps : FnX hv P w K mg base 5 "gaps" ["jets"] spx_gaps) (FX_hidden_jets : FnX hv P w K mg base 5 "hidden_jets" ["jets"] spx_hidden_jets) (FX_highest_at : FnX hv P w K mg base 5 "highest_at" ["jets", "place"] spx_highest_at) (FX_seen_of : FnX hv P w K mg base 5 "seen_of" ["jets"] spx_seen_of) (FX_skyline : FnX hv P w K mg base 5 "skyline" ["jets"] spx_skyline) (FX_tallest_order : FnX hv P w K mg base 5 "tallest_order" ["jets"] spx_tallest_order) : Fn hv P w K mg base 8 "_law_are_refused" ["hand"] sp__law_are_refused :=
  fn_okC (m := m__law_are_refused) (G.df 37 (top 48) "_law_are_refused" rfl rfl) (G.dg 37 (top 48) "_law_are_refused" rfl rfl) sc__law_are_refused sp1_len (fun _ _ _ _ _ _ us hl => match us, hl with | [_], _ => rfl) (fun f cdv A outer s H E ec hr hgd => by
    have hu := hr.units
    have hu8 := u80 hr
    have sc_nd := sc__law_are_refused.nd
    exact (dss_cons (ds_parT rfl (da2_cons (de_fn (F__law_no_jets.mono (by decide)) hr hgd (da_cons (de_pv (pv 0)) da_nil)) (da2_cons (de_fn (F__law_some.mono (by decide)) hr hgd (da_cons (de_pv (pv 0)) (da_cons (de_lst (da_cons (de_neg de_int) (da_cons de_int (da_cons de_non (da_cons de_bl (da_cons de_str (da_cons (de_tup (da_cons de_int da_nil)) (da_cons (de_fn (F__law_deep.mono (by decide)) hr hgd (da_cons (de_pv (pv 0)) da_nil)) da_nil)))))))) da_nil))) da2_nil)) (pgn_cons sc_nd (pgn_cons sc_nd pgn_nil)))
  (dss_cons (by first | exact (ds_asgLcFn rfl sc_nd (pf_cons (G.dg 10 (top 20) "skyline" rfl rfl) (pf_cons (G.dg 12 (top 22) "seen_of" rfl rfl) (pf_cons (G.dg 13 (top 23) "hidden_jets" rfl rfl) (pf_cons (G.dg 14 (top 24) "area" rfl rfl) (pf_cons (G.dg 17 (top 27) "gaps" rfl rfl) pf_nil))))) (by rfl) (fun _ _ _ _ _ => pg_name sc_nd rfl (by first | exact .inl rfl | exact .inr rfl) (by first | exact .inl rfl | exact .inr rfl)) (fun _ _ _ _ _ => (de_word (k := 5) (F__law_word.mono (by decide)) (lam_mk0 (lamN_by (by kernel_rfl)) (LamAt.blk (TF.at_ (j := 0) rfl ec)) rfl (fun _ _ _ _ _ _ => rfl)) (lamN_by (by kernel_rfl)) (hr.mono (by decide)) hgd (fun A outer s H E f c' hr hgd tk => by
    have hu := hr.units
    have hu8 := u80 hr
    exact pe_both de_none (dex_callV (k := 5) (all_fa ⟨G.dg 10 (top 20) "skyline" rfl rfl, _, FX_skyline.mono (by decide)⟩ (all_fa ⟨G.dg 12 (top 22) "seen_of" rfl rfl, _, FX_seen_of.mono (by decide)⟩ (all_fa ⟨G.dg 13 (top 23) "hidden_jets" rfl rfl, _, FX_hidden_jets.mono (by decide)⟩ (all_fa ⟨G.dg 14 (top 24) "area" rfl rfl, _, FX_area.mono (by decide)⟩ (all_fa ⟨G.dg 17 (top 27) "gaps" rfl rfl, _, FX_gaps.mono (by decide)⟩ (fun _ z => absurd z (by simp))))))) hr hgd tk (pv 4) (da_cons (de_pv (pv 1)) da_nil))))) (by rw [sizeLine_eq]; decide)) | exact (ds_asg sc_nd (de_lcFn rfl sc_nd (pf_cons (G.dg 10 (top 20) "skyline" rfl rfl) (pf_cons (G.dg 12 (top 22) "seen_of" rfl rfl) (pf_cons (G.dg 13 (top 23) "hidden_jets" rfl rfl) (pf_cons (G.dg 14 (top 24) "area" rfl rfl) (pf_cons (G.dg 17 (top 27) "gaps" rfl rfl) pf_nil))))) (by rfl) (fun _ _ _ _ _ => pg_name sc_nd rfl (by first | exact .inl rfl | exact .inr rfl) (by first | exact .inl rfl | exact .inr rfl)) (fun _ _ _ _ _ => (de_word (k := 5) (F__law_word.mono (by decide)) (lam_mk0 (lamN_by (by kernel_rfl)) (LamAt.blk (TF.at_ (j := 0) rfl ec)) rfl (fun _ _ _ _ _ _ => rfl)) (lamN_by (by kernel_rfl)) (hr.mono (by decide)) hgd (fun A outer s H E f c' hr hgd tk => by
    have hu := hr.units
    have hu8 := u80 hr
    exact pe_both de_none (dex_callV (k := 5) (all_fa ⟨G.dg 10 (top 20) "skyline" rfl rfl, _, FX_skyline.mono (by decide)⟩ (all_fa ⟨G.dg 12 (top 22) "seen_of" rfl rfl, _, FX_seen_of.mono (by decide)⟩ (all_fa ⟨G.dg 13 (top 23) "hidden_jets" rfl rfl, _, FX_hidden_jets.mono (by decide)⟩ (all_fa ⟨G.dg 14 (top 24) "area" rfl rfl, _, FX_area.mono (by decide)⟩ (all_fa ⟨G.dg 17 (top 27) "gaps" rfl rfl, _, FX_gaps.mono (by decide)⟩ (fun _ z => absurd z (by simp))))))) hr hgd tk (pv 4) (da_cons (de_pv (pv 1)) da_nil))))) (by rw [sizeLine_eq]; decide))))
  (dss_cons (ds_asg sc_nd (de_op od_add (de_pv (pv 3)) (de_lcFn rfl sc_nd (pf_cons (G.dg 18 (top 28) "tallest_order" rfl rfl) (pf_cons (G.dg 19 (top 29) "fewest_for" rfl rfl) pf_nil)) (by rfl) (fun _ _ _ _ _ => pg_name sc_nd rfl (by first | exact .inl rfl | exact .inr rfl) (by first | exact .inl rfl | exact .inr rfl)) (fun _ _ _ _ _ => (de_word (k := 5) (F__law_word.mono (by decide)) (lam_mk0 (lamN_by (by kernel_rfl)) (LamAt.blk (TF.at_ (j := 0) rfl ec)) rfl (fun _ _ _ _ _ _ => rfl)) (lamN_by (by kernel_rfl)) (hr.mono (by decide)) hgd (fun A outer s H E f c' hr hgd tk => by
    have hu := hr.units
    have hu8 := u80 hr
    exact pe_both de_none (dex_callV (k := 5) (all_fa ⟨G.dg 18 (top 28) "tallest_order" rfl rfl, _, FX_tallest_order.mono (by decide)⟩ (all_fa ⟨G.dg 19 (top 29) "fewest_for" rfl rfl, _, FX_fewest_for.mono (by decide)⟩ (fun _ z => absurd z (by simp)))) hr hgd tk (pv 4) (da_cons (de_pv (pv 1)) da_nil))))) (by rw [sizeLine_eq]; decide))))
  (dss_cons (ds_app (pv 3) (de_word (k := 5) (F__law_word.mono (by decide)) (lam_mk0 (lamN_by (by kernel_rfl)) (TF.at_ (j := 0) rfl ec) rfl (fun _ _ _ _ _ _ => rfl)) (lamN_by (by kernel_rfl)) (hr.mono (by decide)) hgd (fun A outer s H E f c' hr hgd tk => by
    have hu := hr.units
    have hu8 := u80 hr
    exact pe_both de_none (dex_fn (FX_highest_at.mono (by decide)) hr hgd tk (da_cons (de_pv (pv 1)) (da_cons (de_pv (pv 2)) da_nil))))))
  (dss_cons (ds_app (pv 3) (de_word (k := 5) (F__law_word.mono (by decide)) (lam_mk1 (lamN_by (by kernel_rfl)) (TF.at_ (j := 0) rfl ec) rfl rfl (fun q cl t u doc pm cv ctv s2 h => BindsTo.of_defaults rfl h rfl rfl rfl)) (lamN_by (by kernel_rfl)) (hr.mono (by decide)) hgd (fun A outer s H E f c' hr hgd tk => by
    have hu := hr.units
    have hu8 := u80 hr
    exact pe_both de_none (dex_fn (FX_highest_at.mono (by decide)) hr hgd tk (da_cons (de_tup (da_cons (de_tup (da_cons de_int (da_cons de_int (da_cons de_int da_nil)))) da_nil)) (da_cons (de_pv (pv 2)) da_nil))))))
  (dss_one (ds_ret (de_cmp (od_eq hu) (de_pv (pv 3)) (de_op od_add (de_op od_mul (de_lst (da_cons de_str da_nil)) de_int) (de_lst (da_cons de_str da_nil)))))))))))) meets__law_are_refused
end
section
variable {P : Program} {w : World} {K : PySem.W.Frag} {mg : Str → Option Value} {base : Heap} {T : List (Addr × Str)}
theorem sc__law_hand : FnScope ["script", "cells", "cell"] ["script"] (defScope (top 34)) := ⟨rfl, rfl, rfl, by decide +kernel, rfl, by decide +kernel, by decide +kernel⟩
theorem sc__law_draw : FnScope ["hand", "size", "cell", "digit", "number"] ["hand", "size"] (defScope (top 35)) := ⟨rfl, rfl, rfl, by decide +kernel, rfl, by decide +kernel, by decide +kernel⟩
theorem ok__law_hand (G : GG K mg) : HandFn (hvA T) P w K mg base "_law_hand" "script" :=
  hand_fn (t := tHandA K (tOp oA (tC (.int 431)) (tOp oM (tC (.int 7)) (tCB (rLenS K) (L2.tCons (tVar 1) L2.tNil))))) (G.df 23 (top 34) "_law_hand" rfl rfl) sc__law_hand (fun _ _ _ _ _ _ us hl => match us, hl with | [_], _ => rfl) (fun f cdv A outer s H E hr => by
    have sc_nd := sc__law_hand.nd
    exact pss_cons (ps_setLc rfl sc_nd rfl rfl rfl (pi_list (pe_slice sl_list (pv 0) po_none (po_some pe_int))) (own := [("cell", 2)]) (blkOk_by (by rfl)) (fun _ _ _ _ _ => pg_name sc_nd rfl (.inl rfl)) (fun _ _ _ _ _ => pts_nil) (fun _ _ _ _ _ => (pe_callB call_abs rfl (G.free 1 rfl) bt_abs (pa_cons (pe_callTy call_int1 rfl (G.free 5 rfl) bt_int (pa_cons (pv 2) pa_nil)) pa_nil))))
      (pss_one (ps_ret (pe_lst (pa_cons (pv 1) (pa_cons pe_int (pa_cons pe_int (pa_cons (pe_op op_add pe_int (pe_op op_mul pe_int (pe_callB call_len_seq rfl (G.free 7 rfl) bt_len (pa_cons (pv 1) pa_nil)))) (pa_cons pe_int pa_nil)))))))))
    (pure_handA rfl fun σ H l xs h1 h2 h3 => ⟨_, (ie_0 ie_c (ie_1 ie_c (ie_lenv h1 h2) (.inl ⟨by decide, by decide⟩))), by omega, by omega⟩)
theorem ok__law_draw (G : GG K mg) : Fn (hvA T) P w K mg base 1 "_law_draw" ["hand", "size"] sp__law_draw :=
  fn_raw (t := tDrawA K (tOp oM (tVar 2) (tC (.int 40692))) 69621 29 2147483629 7919 48271 2147483647 1009 69621 2147483647 40014 2003 2147483563 0 16) (G.df 24 (top 35) "_law_draw" rfl rfl) sc__law_draw sp2_len (fun _ _ _ _ _ _ us hl => match us, hl with | [_, _], _ => rfl) (fun f cdv A outer s H E hr hgd => by
    have sc_nd := sc__law_draw.nd
    exact (pss_cons (ps_if (PW.pt (pw_and (pt_cmp (pc_eqI (pe_ix ix_list (pv 0) pe_int (by intro _ _; rfl)) pe_int)) (pw_and1 (pt_cmp (pc_lt (pe_ix ix_list (pv 0) pe_int (by intro _ _; rfl)) (pe_callB call_len_seq rfl (G.free 7 rfl) bt_len (pa_cons (pe_ix ix_list (pv 0) pe_int (by intro _ _; rfl)) pa_nil))))))) (pss_cons (ps_set (i := 2) sc_nd rfl (.inl rfl) (pe_ix ix_list (pe_ix ix_list (pv 0) pe_int (by intro _ _; rfl)) (pe_ix ix_list (pv 0) pe_int (by intro _ _; rfl)) (by intro _ _; rfl)))
 (pss_cons (ps_asg (pe_op op_add (pe_ix ix_list (pv 0) pe_int (by intro _ _; rfl)) pe_int) (pg_sub (pv 0) pe_int set_list))
 (pss_cons (ps_asg (pe_op op_modN (pe_callTy call_int1 rfl (G.free 5 rfl) bt_int (pa_cons (pe_op op_add (pe_op op_add (pe_op op_mul (pe_ix ix_list (pv 0) pe_int (by intro _ _; rfl)) pe_int) (pe_op op_mul (pv 2) pe_int)) pe_int) pa_nil)) pe_int) (pg_sub (pv 0) pe_int set_list))
 (pss_one (ps_if (pt_cmp (pc_ge (pv 2) (pe_op op_pow pe_int pe_int))) (pss_one (ps_asg (pv 2) (pg_sub (pv 0) pe_int set_list))) pss_nil))))) pss_nil)
 (pss_cons (ps_if (pt_cmp (pc_gt (pe_ix ix_list (pv 0) pe_int (by intro _ _; rfl)) pe_int)) (pss_cons (ps_set (i := 3) sc_nd rfl (.inl rfl) (pe_op op_modN (pe_callTy call_int1 rfl (G.free 5 rfl) bt_int (pa_cons (pe_ix ix_list (pv 0) pe_int (by intro _ _; rfl)) pa_nil)) (pv 1)))
 (pss_cons (ps_asg (pe_op op_fdivN (pe_ix ix_list (pv 0) pe_int (by intro _ _; rfl)) (pv 1)) (pg_sub (pv 0) pe_int set_list))
 (pss_one (ps_ret (pv 3))))) pss_nil)
 (pss_cons (ps_asg (pe_op op_add (pe_ix ix_list (pv 0) pe_int (by intro _ _; rfl)) pe_int) (pg_sub (pv 0) pe_int set_list))
 (pss_cons (ps_set (i := 4) sc_nd rfl (.inl rfl) (pe_op op_modN (pe_callTy call_int1 rfl (G.free 5 rfl) bt_int (pa_cons (pe_op op_mul (pe_callTy call_int1 rfl (G.free 5 rfl) bt_int (pa_cons (pe_op op_add (pe_ix ix_list (pv 0) pe_int (by intro _ _; rfl)) (pe_op op_mul pe_int (pe_ix ix_list (pv 0) pe_int (by intro _ _; rfl)))) pa_nil)) pe_int) pa_nil)) pe_int))
 (pss_cons (ps_set (i := 4) sc_nd rfl (.inl rfl) (pe_op op_modN (pe_callTy call_int1 rfl (G.free 5 rfl) bt_int (pa_cons (pe_op op_mul (pv 4) (pe_op op_add (pe_op op_fdivN (pv 4) pe_int) pe_int)) pa_nil)) pe_int))
 (pss_cons (ps_set (i := 4) sc_nd rfl (.inl rfl) (pe_op op_modN (pe_callTy call_int1 rfl (G.free 5 rfl) bt_int (pa_cons (pe_op op_mul (pv 4) (pe_op op_add (pe_op op_fdivN (pv 4) pe_int) pe_int)) pa_nil)) pe_int))
 (pss_one (ps_ret (pe_op op_modN (pe_callTy call_int1 rfl (G.free 5 rfl) bt_int (pa_cons (pe_op op_fdivN (pv 4) pe_int) pa_nil)) (pv 1)))))))))))
    (pure_drawA rfl (by unfold DL.okA; decide) fun σ H v hv => ⟨_, (ie_1 (ie_var hv) ie_c (.inr ⟨by decide, by decide⟩))⟩)
theorem sc_law : FnScope ["script", "hand", "jets", "step"] ["script"] (defScope (top 49)) := ⟨rfl, rfl, rfl, by decide +kernel, rfl, by decide +kernel, by decide +kernel⟩
theorem law_ok (G : GG K mg) (EX : ExF excs allx K mg) (TF : TabF lamds (hvA (tabsT lamds K)) K base mg) {f : Addr} {fd : FuncData} (FD : FunD K "law" "law" (defArgs (top 49)) (defBody (top 49)) (defScope (top 49)) [] [] f fd) : FnG P w K mg base 10 f fd ["script"] (sp_law K (tabsT lamds K)) := by
  have F_hand : HandFn (hvA (tabsT lamds K)) P w K mg base "_law_hand" "script" := ok__law_hand G
  have F__law_draw : Fn (hvA (tabsT lamds K)) P w K mg base 1 "_law_draw" ["hand", "size"] sp__law_draw := ok__law_draw G
  have F_is_integer : Fn (hvA (tabsT lamds K)) P w K mg base 1 "is_integer" ["thing"] sp_is_integer := ok_is_integer G 
  have F_is_within : Fn (hvA (tabsT lamds K)) P w K mg base 2 "is_within" ["thing", "least", "most"] sp_is_within := ok_is_within G F_is_integer
  have F_is_tuple_of : Fn (hvA (tabsT lamds K)) P w K mg base 1 "is_tuple_of" ["thing", "size"] sp_is_tuple_of := ok_is_tuple_of G 
  have F_lots_of : Fn (hvA (tabsT lamds K)) P w K mg base 1 "lots_of" ["many", "size"] sp_lots_of := ok_lots_of G 
  have F_all_lots : Fn (hvA (tabsT lamds K)) P w K mg base 2 "all_lots" ["many"] sp_all_lots := ok_all_lots G F_lots_of
  have F_is_jet : Fn (hvA (tabsT lamds K)) P w K mg base 3 "is_jet" ["thing"] sp_is_jet := ok_is_jet G F_is_tuple_of F_is_within
  have F_check_jets : Fn (hvA (tabsT lamds K)) P w K mg base 4 "check_jets" ["jets"] sp_check_jets := ok_check_jets G F_is_jet
  have F_height_at : Fn (hvA (tabsT lamds K)) P w K mg base 1 "height_at" ["jet", "place"] sp_height_at := ok_height_at G 
  have F_heights_of : Fn (hvA (tabsT lamds K)) P w K mg base 2 "heights_of" ["jets"] sp_heights_of := ok_heights_of G F_height_at
  have F_raw_skyline : Fn (hvA (tabsT lamds K)) P w K mg base 3 "raw_skyline" ["jets"] sp_raw_skyline := ok_raw_skyline G F_heights_of
  have F_skyline : Fn (hvA (tabsT lamds K)) P w K mg base 5 "skyline" ["jets"] sp_skyline := ok_skyline G F_check_jets F_raw_skyline
  have F_tallest_order : Fn (hvA (tabsT lamds K)) P w K mg base 5 "tallest_order" ["jets"] sp_tallest_order := ok_tallest_order G F_check_jets
  have F_fewest_for : Fn (hvA (tabsT lamds K)) P w K mg base 5 "fewest_for" ["jets"] sp_fewest_for := ok_fewest_for G F_all_lots F_check_jets F_heights_of
  have F_is_change : Fn (hvA (tabsT lamds K)) P w K mg base 3 "is_change" ["thing"] sp_is_change := ok_is_change G F_is_tuple_of F_is_within
  have F_do_change : Fn (hvA (tabsT lamds K)) P w K mg base 1 "do_change" ["changes"] sp_do_change := ok_do_change G 
  have F_is_skyline : Fn (hvA (tabsT lamds K)) P w K mg base 4 "is_skyline" ["thing"] sp_is_skyline := ok_is_skyline G F_do_change F_is_change
  have F__law_some : Fn (hvA (tabsT lamds K)) P w K mg base 2 "_law_some" ["hand", "things"] sp__law_some := ok__law_some G F__law_draw
  have F__law_is_int : Fn (hvA (tabsT lamds K)) P w K mg base 1 "_law_is_int" ["thing"] sp__law_is_int := ok__law_is_int G 
  have F__law_deep : Fn (hvA (tabsT lamds K)) P w K mg base 3 "_law_deep" ["hand"] sp__law_deep := ok__law_deep G F__law_draw F__law_some
  have F__law_jets : Fn (hvA (tabsT lamds K)) P w K mg base 3 "_law_jets" ["hand", "most"] sp__law_jets := ok__law_jets G F__law_draw F__law_some
  have F__law_heights : Fn (hvA (tabsT lamds K)) P w K mg base 1 "_law_heights" ["jets"] sp__law_heights := ok__law_heights G 
  have F__law_skyline : Fn (hvA (tabsT lamds K)) P w K mg base 2 "_law_skyline" ["jets"] sp__law_skyline := ok__law_skyline G F__law_heights
  have F__law_no_jets : Fn (hvA (tabsT lamds K)) P w K mg base 4 "_law_no_jets" ["hand"] sp__law_no_jets := ok__law_no_jets G F__law_deep F__law_some
  have F__law_word : Wrd (hvA (tabsT lamds K)) P w K mg base 0 "_law_word" sp__law_word := ok__law_word G EX
  have F__law_fewest : Fn (hvA (tabsT lamds K)) P w K mg base 3 "_law_fewest" ["jets"] sp__law_fewest := ok__law_fewest G F__law_skyline
  have F__law_is_line : Fn (hvA (tabsT lamds K)) P w K mg base 2 "_law_is_line" ["thing"] sp__law_is_line := ok__law_is_line G F__law_is_int
  have F__law_bent : Fn (hvA (tabsT lamds K)) P w K mg base 4 "_law_bent" ["hand", "line"] sp__law_bent := ok__law_bent G F__law_deep F__law_draw F__law_some
  have F__law_is_right : Fn (hvA (tabsT lamds K)) P w K mg base 6 "_law_is_right" ["hand", "jets"] sp__law_is_right := ok__law_is_right G F__law_bent F__law_fewest F__law_is_line F_fewest_for F_is_skyline F_skyline F_tallest_order
  have FX_check_jets : FnX (hvA (tabsT lamds K)) P w K mg base 4 "check_jets" ["jets"] spx_check_jets := okx_check_jets G EX F_is_jet
  have FX_area : FnX (hvA (tabsT lamds K)) P w K mg base 5 "area" ["jets"] spx_area := okx_area G EX FX_check_jets
  have FX_fewest_for : FnX (hvA (tabsT lamds K)) P w K mg base 5 "fewest_for" ["jets"] spx_fewest_for := okx_fewest_for G EX FX_check_jets
  have FX_gaps : FnX (hvA (tabsT lamds K)) P w K mg base 5 "gaps" ["jets"] spx_gaps := okx_gaps G EX FX_check_jets
  have FX_hidden_jets : FnX (hvA (tabsT lamds K)) P w K mg base 5 "hidden_jets" ["jets"] spx_hidden_jets := okx_hidden_jets G EX FX_check_jets
  have FX_highest_at : FnX (hvA (tabsT lamds K)) P w K mg base 5 "highest_at" ["jets", "place"] spx_highest_at := okx_highest_at G EX F_check_jets F_is_within FX_check_jets
  have FX_seen_of : FnX (hvA (tabsT lamds K)) P w K mg base 5 "seen_of" ["jets"] spx_seen_of := okx_seen_of G EX FX_check_jets
  have FX_skyline : FnX (hvA (tabsT lamds K)) P w K mg base 5 "skyline" ["jets"] spx_skyline := okx_skyline G EX FX_check_jets
  have FX_tallest_order : FnX (hvA (tabsT lamds K)) P w K mg base 5 "tallest_order" ["jets"] spx_tallest_order := okx_tallest_order G EX FX_check_jets
  have F__law_are_refused : Fn (hvA (tabsT lamds K)) P w K mg base 8 "_law_are_refused" ["hand"] sp__law_are_refused := ok__law_are_refused G TF F__law_deep F__law_no_jets F__law_some F__law_word FX_area FX_fewest_for FX_gaps FX_hidden_jets FX_highest_at FX_seen_of FX_skyline FX_tallest_order
  exact law_fn (hv0 := (hvA (tabsT lamds K))) (m := m_law) FD sc_law (by decide) rfl (fun cdv A outer s H E hr hgd => ps_hand F_hand (hr.mono (by decide)) hgd sc_law.nd (pv 0)) (fun cdv A outer s H E hr hgd => by
    have hu := hr.units
    have hu8 := u80 hr
    have sc_nd := sc_law.nd
    exact (dss_cons (ds_asg sc_nd (de_tup (da_cons (de_tup (da_cons de_int (da_cons de_int (da_cons de_int da_nil)))) (da_cons (de_tup (da_cons de_int (da_cons de_int (da_cons de_int da_nil)))) (da_cons (de_tup (da_cons de_int (da_cons de_int (da_cons de_int da_nil)))) (da_cons (de_tup (da_cons de_int (da_cons de_int (da_cons de_int da_nil)))) da_nil))))))
  (dss_cons (ds_if (dt_w (dw_or (dt_cmp (od_ne hu) (de_fn (F_tallest_order.mono (by decide)) hr hgd (da_cons (de_pv (pv 2)) da_nil)) (de_tup (da_cons de_int (da_cons de_int (da_cons de_int (da_cons de_int da_nil)))))) (dw_or1 (dt_cmp (od_ne hu) (de_fn (F_fewest_for.mono (by decide)) hr hgd (da_cons (de_pv (pv 2)) da_nil)) (de_tup (da_cons de_int (da_cons de_int da_nil))))))) (dss_one (ds_ret de_bl)) dss_nil)
  (dss_cons (ds_if (dt_w (dw_or (dt_cmp (od_ne hu) (de_fn (F_fewest_for.mono (by decide)) hr hgd (da_cons (de_tup da_nil) da_nil)) (de_tup da_nil)) (dw_or (dt_cmp (od_ne hu) (de_fn (F_tallest_order.mono (by decide)) hr hgd (da_cons (de_tup da_nil) da_nil)) (de_tup da_nil)) (dw_or1 (dt_cmp od_isNot (de_fn (F_is_skyline.mono (by decide)) hr hgd (da_cons (de_tup da_nil) da_nil)) de_bl))))) (dss_one (ds_ret de_bl)) dss_nil)
  (dss_cons (ds_if (dt_w (dw_or (dt_cmp od_isNot (de_fn (F_is_skyline.mono (by decide)) hr hgd (da_cons (de_tup (da_cons (de_tup (da_cons de_int (da_cons de_int da_nil))) (da_cons (de_tup (da_cons de_int (da_cons de_int da_nil))) da_nil))) da_nil)) de_bl) (dw_or1 (dt_cmp od_isNot (de_fn (F_is_skyline.mono (by decide)) hr hgd (da_cons (de_tup (da_cons (de_tup (da_cons de_int (da_cons de_int da_nil))) (da_cons (de_tup (da_cons de_int (da_cons de_int da_nil))) (da_cons (de_tup (da_cons de_int (da_cons de_int da_nil))) da_nil)))) da_nil)) de_bl)))) (dss_one (ds_ret de_bl)) dss_nil)
  (dss_cons (ds_if (dt_w (dw_or (dt_cmp od_isNot (de_fn (F_is_skyline.mono (by decide)) hr hgd (da_cons (de_tup (da_cons (de_tup (da_cons de_int (da_cons de_int da_nil))) da_nil)) da_nil)) de_bl) (dw_or1 (dt_cmp od_isNot (de_fn (F_is_skyline.mono (by decide)) hr hgd (da_cons (de_tup (da_cons (de_tup (da_cons de_int (da_cons de_int da_nil))) da_nil)) da_nil)) de_bl)))) (dss_one (ds_ret de_bl)) dss_nil)
  (dss_cons (ds_weak (ds_for .never rfl (di_rng1 (G.free 10 rfl) (da_cons de_int da_nil)) (dg_name sc_nd) (bt_name 3) (dss_one (ds_if (dt_w (dw_or (dt_not (dt_tru (de_fn (F__law_is_right.mono (by decide)) hr hgd (da_cons (de_pv (pv 1)) (da_cons (de_fn (F__law_jets.mono (by decide)) hr hgd (da_cons (de_pv (pv 1)) (da_cons de_int da_nil))) da_nil))))) (dw_or1 (dt_not (dt_tru (de_fn (F__law_are_refused.mono (by decide)) hr hgd (da_cons (de_pv (pv 1)) da_nil))))))) (dss_one (ds_ret de_bl)) dss_nil))))
  (dss_one (ds_ret de_bl))))))))) holds_law
end
end DL.K41


namespace DL.K41
open PySem PySem.Spec PyProof.Rows L2 PySem.W
abbrev rowL : PySem.W.OpenRow := PySem.W.OpenLaw.row PySem.Challenge.rw_cordfire_k41_whole_jets_in_order_and_sky
abbrev hook : PySem.W.Hook := He.hookX 4 (falOf defs frees gis gss) (defs.map ddOf) [] (lamds.map fun x => (x, none)) (restB gns excs allx lamds)
def obs (s : PySem.W.SharedT) : He.AlX := He.obsX 4 (falOf defs frees gis gss) (defs.map ddOf) [] (lamds.map fun x => (x, none)) (restB gns excs allx lamds) (HandSHeadRun.getT s)
theorem obs_eq (s : PySem.W.SharedT) : obs s = hook.obs s.abs := He.obsX_eq (HandSHeadRun.getT_eq s)
def looseL : List PySem.Str := (["is_integer", "is_within", "is_tuple_of", "FireError", "NoJets", "NoPlace", "lots_of", "all_lots", "MOST_JETS", "MOST_PLACE", "MOST_HEIGHT", "is_jet", "check_jets", "height_at", "heights_of", "raw_skyline", "skyline", "raw_seen", "seen_of", "hidden_jets", "area", "highest_at", "gaps_between", "gaps", "tallest_order", "fewest_for", "is_change", "do_change", "is_skyline", "_law_hand"] : List PySem.Str) ++ (["_law_draw", "_law_some", "_law_is_int", "_law_deep", "_law_jets", "_law_heights", "_law_skyline", "_law_no_jets", "_law_word", "_law_fewest", "_law_is_line", "_law_bent", "_law_is_right", "_law_are_refused"] : List PySem.Str)
theorem runs (w : World) : HandSHeadRun.RunEq rowL (PySem.W.view rowL.prog [49]) hook obs 4000 looseL w := by
  intro os
  kernel_rfl
theorem facts {P : Program} {w : World} {K : PySem.W.Frag} {h : Heap} {mg : Str → Option Value} {f : Addr} (X : K.In h) (G : h.Ns mainGlobals mg) (hfa : mg ("law" : Str) = some (.ref f)) (c : He.SaysD (falOf defs frees gis gss) (defs.map ddOf) K) (cn : restB gns excs allx lamds K = true) :
    ∃ fd : FuncData, (∀ (s : Shared) (v : Value), BindsTo s fd ⟨[v], []⟩ [("script", v)]) ∧ ∀ base : Heap, (∀ q ∈ lamds.map (fun x => He.cT K (x, none)), LamX.TabB base mg q.1 q.2) → FnG P w K mg base 10 f fd ["script"] (sp_law K (tabsT lamds K)) := by
  obtain ⟨cn1, cn2⟩ := He.ba cn
  obtain ⟨cn2, cn3⟩ := He.ba cn2
  have GL : GG K mg := glob_of X G c cn1
  obtain ⟨f', fd, h1, F⟩ := GL.df 38 (top 49) "law" rfl rfl
  rw [hfa] at h1
  cases h1
  have b := FunD.bindsA (ps := ["script"]) F fun _ _ _ _ _ _ us hl => match us, hl with | [_], _ => rfl
  exact ⟨fd, fun s v => b s [v] rfl, fun base tb => law_ok GL (exF_of X G cn2) (tabF_of (hv := hvA (tabsT lamds K)) rfl cn3 tb) F⟩
end DL.K41
open PySem PySem.W PySem.Calls PyProof.Rows
set_option maxHeartbeats 0 in
theorem PySem.Challenge.cw_cordfire_k41_whole_jets_in_order_and_sky_holds : PySem.Challenge.rw_cordfire_k41_whole_jets_in_order_and_sky.Holds := by
  w_on; o_law
  refine HandSHeadRun.head_any (r := OpenLaw.row PySem.Challenge.rw_cordfire_k41_whole_jets_in_order_and_sky) (q := view (OpenLaw.row PySem.Challenge.rw_cordfire_k41_whole_jets_in_order_and_sky).prog [49]) (H := DL.K41.hook) (ob := DL.K41.obs) (M := 4000) (loose := DL.K41.looseL) (d := HandSHeadRun.topDef (OpenLaw.row PySem.Challenge.rw_cordfire_k41_whole_jets_in_order_and_sky).prog 49) (kwd := []) DL.K41.obs_eq
    (by kernel_rfl) (fun s => by kernel_rfl) DL.K41.runs (by kernel_rfl) (by kernel_rfl) (by kernel_rfl) (by rfl) (by first | assumption | decide +kernel) (by decide +kernel) ⟨rfl, rfl, rfl, rfl, rfl, by decide +kernel⟩ ?pw ?pc
  case pw => w_witness2
  case pc =>
    refine DL.walk_G (l := PySem.Challenge.rw_cordfire_k41_whole_jets_in_order_and_sky) (n := 63) (k := 10) (x := "script") rfl (by decide) (by kernel_rfl) ⟨rfl, by decide, by decide⟩ ?F0
    intro w mg fa h Y G hmg0
    obtain ⟨K, KX, c⟩ := Y
    have hmg : mg ("law" : PySem.Str) = some (.ref fa) := by
      have nm : (HandSHeadRun.topDef (OpenLaw.row PySem.Challenge.rw_cordfire_k41_whole_jets_in_order_and_sky).prog 49).name = ("law" : PySem.Str) := by kernel_rfl
      rw [← nm]
      exact hmg0
    obtain ⟨fd, hb, hF⟩ := DL.K41.facts (P := (PySem.Challenge.rw_cordfire_k41_whole_jets_in_order_and_sky).prog) (w := w) KX G hmg c.t.d c.more
    exact ⟨K, fd, DL.K41.lamds.map (fun x => He.cT K (x, none)), DL.sp_law K (DL.tabsT DL.K41.lamds K), KX, fun q hq => by
      obtain ⟨x, hx, rfl⟩ := List.mem_map.mp hq
      exact c.empty _ (List.mem_map.mpr ⟨x, hx, rfl⟩), fun q hq => by
      obtain ⟨x, hx, rfl⟩ := List.mem_map.mp hq
      exact c.out _ (List.mem_map.mpr ⟨x, hx, rfl⟩), fun q hq => by
      obtain ⟨x, hx, rfl⟩ := List.mem_map.mp hq
      exact PySem.W.codeHd_of_K KX (c.hd _ (List.mem_map.mpr ⟨x, hx, rfl⟩)), hb, fun H a ns hl ht hS => ⟨a, ns, rfl, hS, hl, DL.tabs_start ht, fun _ => rfl⟩, fun base _ _ tb => hF base tb⟩

