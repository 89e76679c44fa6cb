import PyProof.Rows.All
import Wide.All
import OpenK.AllK
import Wide.FinOn
import HandS.ForMost
import HandS.ExcCtx
import HandS.CallSlots
import HandS.HotCalls
import HandS.ForExc
import HandS.TryMany
import HandS.Lambda
import HandS.ExcInit
import HandS.ExcField
import HandS.ExcIs
import HandS.EndTab
import HandS.Wide
import HandS.IsInst
import PyProof.ReprRoads
import HandS.TupAny
import HandS.TupMul
import HandS.SortInts
import HandS.SetKeys
import PyProof.Rows.IntBool
import PyProof.NeKinds
import HandS.Conv
import HandS.Strs
import HandS.More
import HandS.Style
import HandS.Iter
import HandS.DictComp
import HandS.Zip
import HandS.SetFor
import KE.KExcInit
import KE.KTryMore
import KE.KExcIs
import HandS.HeadHook4
import HandS.HeadNt
import HandS.Gcd
import HandS.Head0
import HandS.Head1
import HandS.Head2
import HandS.Head3
import HandS.HeadEnd
import HandS.DictEq
import PySem.Challenge.RW_stileturns_k83_parts_of_lamp_rows
set_option Elab.async false
set_option linter.all false
set_option maxRecDepth 100000
set_option maxHeartbeats 2000000
/-! Layer D: values as trees. A value is told by its content; what may change has an address in a store. -/
namespace DL
open PySem PySem.Spec PyProof.Rows L2

/-- a value by its content; ref: an object by its address -/
inductive D where
  | non | bl (b : Bool) | int (i : Int) | str (x : Str)
  | tup (ds : List D) | lst (ds : List D) | dic (ks : List Key) (ds : List D)
  | ref (a : Addr) | ty (n : String)

/-- a deck's shape: the names of its list, of its two numbers, what else it holds -/
structure Dk where
  k1 : Str
  k2 : Str
  k3 : Str
  ex : List (Key × D)
/-- a thing that may change -/
inductive MO where
  | lst (ds : List D)
  | dic (kvs : List (Key × D))
  | deck (d : Dk)
  | part (o : Addr)
abbrev Sto := Addr → Option MO
def updM (M : Sto) (a : Addr) (o : MO) : Sto := fun b => if b = a then some o else M b
theorem updM_same {M : Sto} {a : Addr} {o : MO} : updM M a o a = some o := if_pos rfl
theorem updM_ne {M : Sto} {a b : Addr} {o : MO} (h : b ≠ a) : updM M a o b = M b := if_neg h

/-! ### how a value reads off the part of the heap that never changes -/
mutual
def Rdd (F : Hp) : D → V → Prop
  | .non, v => v = .non
  | .bl b, v => v = .bl b
  | .int i, v => v = .int i
  | .str x, v => v = .str x
  | .tup ds, v => ∃ a xs, v = .ref a ∧ F a = some (.tup xs) ∧ Rds F ds xs
  | .lst ds, v => ∃ a xs, v = .ref a ∧ F a = some (.lst xs) ∧ Rds F ds xs
  | .dic ks ds, v => ∃ a xs o, v = .ref a ∧ F a = some (.frz o (.dK (ks.zip xs))) ∧ ks.length = xs.length ∧ Rds F ds xs
  | .ref a, v => v = .ref a
  | .ty n, v => v = .ty n
def Rds (F : Hp) : List D → List V → Prop
  | [], xs => xs = []
  | d :: ds, xs => ∃ x r, xs = x :: r ∧ Rdd F d x ∧ Rds F ds r
end
/-- a smaller known heap within a greater one -/
def Le (F F' : Hp) : Prop := ∀ a o, F a = some o → F' a = some o
theorem Le.refl (F : Hp) : Le F F := fun _ _ h => h
theorem Le.trans {F F1 F2 : Hp} (a : Le F F1) (b : Le F1 F2) : Le F F2 := fun c o h => b c o (a c o h)
theorem Le.new {F : Hp} {a : Addr} {o : HO} (h : F a = none) : Le F (upd F a o) := fun b u e => by
  rw [upd_ne (ne_of_none e h)]; exact e
mutual
theorem Rdd.le {F F' : Hp} (le : Le F F') : ∀ {d : D} {v : V}, Rdd F d v → Rdd F' d v
  | .non, _, h => h
  | .bl _, _, h => h
  | .int _, _, h => h
  | .str _, _, h => h
  | .tup ds, _, h => let ⟨a, xs, e, q, r⟩ := h; ⟨a, xs, e, le _ _ q, Rds.le le r⟩
  | .lst ds, _, h => let ⟨a, xs, e, q, r⟩ := h; ⟨a, xs, e, le _ _ q, Rds.le le r⟩
  | .dic ks ds, _, h => let ⟨a, xs, o, e, q, l, r⟩ := h; ⟨a, xs, o, e, le _ _ q, l, Rds.le le r⟩
  | .ref _, _, h => h
  | .ty _, _, h => h
theorem Rds.le {F F' : Hp} (le : Le F F') : ∀ {ds : List D} {xs : List V}, Rds F ds xs → Rds F' ds xs
  | [], _, h => h
  | _ :: _, _, h => let ⟨x, r, e, q, t⟩ := h; ⟨x, r, e, Rdd.le le q, Rds.le le t⟩
end
theorem Rds.nil {F : Hp} : Rds F [] [] := rfl
theorem Rds.cons {F : Hp} {d : D} {v : V} {ds : List D} {xs : List V} (h : Rdd F d v) (t : Rds F ds xs) : Rds F (d :: ds) (v :: xs) := ⟨v, xs, rfl, h, t⟩
theorem Rds.length {F : Hp} : ∀ {ds : List D} {xs : List V}, Rds F ds xs → ds.length = xs.length
  | [], _, h => by cases h; rfl
  | _ :: _, _, ⟨_, _, e, _, t⟩ => by subst e; simp [Rds.length t]
theorem Rds.append {F : Hp} : ∀ {ds es : List D} {xs ys : List V}, Rds F ds xs → Rds F es ys → Rds F (ds ++ es) (xs ++ ys)
  | [], _, _, _, h, t => by cases h; exact t
  | _ :: _, _, _, _, ⟨x, r, e, q, t⟩, t2 => by subst e; exact ⟨x, _, rfl, q, Rds.append t t2⟩
theorem Rds.get {F : Hp} : ∀ {ds : List D} {xs : List V} {i : Nat} {d : D}, Rds F ds xs → ds[i]? = some d → ∃ v, xs[i]? = some v ∧ Rdd F d v
  | [], _, _, _, _, e => by simp at e
  | _ :: _, _, 0, _, ⟨x, r, e, q, t⟩, h => by subst e; simp at h; subst h; exact ⟨x, rfl, q⟩
  | _ :: _, _, i + 1, _, ⟨x, r, e, q, t⟩, h => by subst e; exact Rds.get (i := i) t (by simpa using h)
theorem Rds.getV {F : Hp} : ∀ {ds : List D} {xs : List V} {i : Nat} {v : V}, Rds F ds xs → xs[i]? = some v → ∃ d, ds[i]? = some d ∧ Rdd F d v
  | [], _, _, _, h, e => by cases h; simp at e
  | d :: _, _, 0, _, ⟨x, r, e, q, t⟩, h => by subst e; simp at h; subst h; exact ⟨d, rfl, q⟩
  | _ :: _, _, i + 1, _, ⟨x, r, e, q, t⟩, h => by subst e; exact Rds.getV (i := i) t (by simpa using h)
theorem Rds.take {F : Hp} : ∀ {ds : List D} {xs : List V} (n : Nat), Rds F ds xs → Rds F (ds.take n) (xs.take n)
  | _, _, 0, _ => rfl
  | [], _, _ + 1, h => by cases h; rfl
  | _ :: _, _, n + 1, ⟨x, r, e, q, t⟩ => by subst e; exact ⟨x, _, rfl, q, Rds.take n t⟩
theorem Rds.drop {F : Hp} : ∀ {ds : List D} {xs : List V} (n : Nat), Rds F ds xs → Rds F (ds.drop n) (xs.drop n)
  | _, _, 0, h => h
  | [], _, _ + 1, h => by cases h; rfl
  | _ :: _, _, n + 1, ⟨x, r, e, q, t⟩ => by subst e; exact Rds.drop n t
theorem Rds.reverse {F : Hp} : ∀ {ds : List D} {xs : List V}, Rds F ds xs → Rds F ds.reverse xs.reverse
  | [], _, h => by cases h; rfl
  | _ :: _, _, ⟨x, r, e, q, t⟩ => by subst e; rw [List.reverse_cons, List.reverse_cons]; exact Rds.append (Rds.reverse t) (.cons q .nil)
theorem Rds.set {F : Hp} {d : D} {v : V} (q0 : Rdd F d v) : ∀ {ds : List D} {xs : List V} (i : Nat), Rds F ds xs → Rds F (ds.set i d) (xs.set i v)
  | [], _, _, h => by cases h; rfl
  | _ :: _, _, 0, ⟨x, r, e, q, t⟩ => by subst e; exact ⟨v, r, rfl, q0, t⟩
  | _ :: _, _, i + 1, ⟨x, r, e, q, t⟩ => by subst e; exact ⟨x, _, rfl, q, Rds.set q0 i t⟩
theorem Rds.ints {F : Hp} : ∀ (ns : List Int), Rds F (ns.map D.int) (ns.map V.int)
  | [] => rfl
  | n :: ns => ⟨_, _, rfl, rfl, Rds.ints ns⟩

/-! ### the world, the store in the heap -/
/-- K: the written part; T: the tables of code objects; S: lists of ints that are locked (the script) -/
structure Wd where
  K : PySem.W.Frag
  T : List (Addr × Str)
  S : List (Addr × List Int)
/-- the cells of a deck -/
def DeckIn (F : Hp) (M : Sto) (H : Hp) (a : Addr) (d : Dk) : Prop :=
  ∃ (l : Addr) (cells : List Int) (m n : Int) (xs : List V), M l = some (.part a) ∧ H l = some (.lst (cells.map V.int)) ∧ cells.length ≤ 63 ∧
    H a = some (.dK ([(.inr d.k1, V.ref l), (.inr d.k2, V.int m), (.inr d.k3, V.int n)] ++ (d.ex.map (·.1)).zip xs)) ∧ Rds F (d.ex.map (·.2)) xs
def MIn (F : Hp) (M : Sto) (H : Hp) (a : Addr) : MO → Prop
  | .lst ds => ∃ xs, H a = some (.lst xs) ∧ Rds F ds xs
  | .dic kvs => ∃ xs, H a = some (.dK ((kvs.map (·.1)).zip xs)) ∧ Rds F (kvs.map (·.2)) xs
  | .deck d => DeckIn F M H a d
  | .part _ => ∃ xs, H a = some (.lst xs)
def ScrIn (W : Wd) (H : Hp) : Prop := ∀ p ∈ W.S, (∃ o, H p.1 = some (.frz o (.lst (p.2.map V.int)))) ∨
  (∃ (o : Obj) (its : Array Value) (n : Nat), W.K.lookup p.1 = some o ∧ o.cls = .type "list" ∧ o.dict = none ∧ o.data = .seq its n ∧ its.size ≤ sizeLine ∧ Vals (p.2.map V.int) its.toList)
theorem ScrIn.sq {W : Wd} {H : Hp} (h : ScrIn W H) {a : Addr} {ns : List Int} (hp : (a, ns) ∈ W.S) : SqL W.K H a (ns.map V.int) := by
  rcases h _ hp with ⟨o, z⟩ | z
  · exact .inl (.inr ⟨o, z⟩)
  · exact .inr z
structure Rep (W : Wd) (F0 F : Hp) (M : Sto) (H : Hp) : Prop where
  base : Le F0 F
  le : Le F H
  mo : ∀ a m, M a = some m → F a = none ∧ MIn F M H a m
  tabs : LamX.Tabs W.T H
  nt : ∀ a ps, F a ≠ some (.tbl ps)
  scr : ScrIn W H
section
variable {W : Wd} {F0 F F' : Hp} {M : Sto} {H H' : Hp} {a p : Addr} {o : HO} {m : MO}
theorem MIn.le (le : Le F F') : ∀ {m : MO}, MIn F M H a m → MIn F' M H a m
  | .lst ds, ⟨xs, e, r⟩ => ⟨xs, e, r.le le⟩
  | .dic kvs, ⟨xs, e, r⟩ => ⟨xs, e, r.le le⟩
  | .deck d, ⟨l, cells, m, n, xs, h1, h2, h3, h4, h5⟩ => ⟨l, cells, m, n, xs, h1, h2, h3, h4, h5.le le⟩
  | .part _, h => h
theorem MIn.there : ∀ {m : MO}, MIn F M H a m → ∃ o, H a = some o
  | .lst ds, ⟨xs, e, r⟩ => ⟨_, e⟩
  | .dic kvs, ⟨xs, e, r⟩ => ⟨_, e⟩
  | .deck d, ⟨l, cells, m, n, xs, h1, h2, h3, h4, h5⟩ => ⟨_, h4⟩
  | .part _, ⟨xs, h⟩ => ⟨_, h⟩
theorem Rep.rebase {F1 : Hp} (R : Rep W F0 F M H) (h : Le F1 F0) : Rep W F1 F M H := ⟨h.trans R.base, R.le, R.mo, R.tabs, R.nt, R.scr⟩
theorem Rep.here (R : Rep W F0 F M H) : Rep W F F M H := ⟨Le.refl F, R.le, R.mo, R.tabs, R.nt, R.scr⟩
theorem Rep.fresh (R : Rep W F0 F M H) (h : H p = none) : M p = none ∧ F p = none := by
  constructor
  · cases e : M p with
    | none => rfl
    | some m => obtain ⟨o, q⟩ := (R.mo p m e).2.there; rw [h] at q; cases q
  · cases e : F p with
    | none => rfl
    | some o => rw [R.le p o e] at h; cases h
theorem scr_ext {W : Wd} {H H' : Hp} (e : ∀ b o, H b = some o → H' b = some o) (h : ScrIn W H) : ScrIn W H' := fun p hp => by
  rcases h p hp with ⟨o, z⟩ | z
  · exact .inl ⟨o, e _ _ z⟩
  · exact .inr z
/-- a part of the store that holds where the heap only grew -/
theorem MIn.grow {M' : Sto} (e : ∀ b o, H b = some o → H' b = some o) (hM : ∀ b o, M b = some (.part o) → M' b = some (.part o)) : ∀ {m : MO}, MIn F M H a m → MIn F M' H' a m
  | .lst ds, ⟨xs, h, r⟩ => ⟨xs, e _ _ h, r⟩
  | .dic kvs, ⟨xs, h, r⟩ => ⟨xs, e _ _ h, r⟩
  | .deck d, ⟨l, cells, m, n, xs, h1, h2, h3, h4, h5⟩ => ⟨l, cells, m, n, xs, hM _ _ h1, e _ _ h2, h3, e _ _ h4, h5⟩
  | .part _, ⟨o, h⟩ => ⟨o, e _ _ h⟩
/-- a new object that never changes -/
theorem Rep.newF (R : Rep W F0 F M H) (h : H p = none) (nt : ∀ ps, o ≠ .tbl ps := by intro _ z; cases z) : Rep W F0 (upd F p o) M (upd H p o) := by
  have hF := (R.fresh h).2
  have e : ∀ b u, H b = some u → upd H p o b = some u := fun b u q => by rw [upd_ne (ne_of_none q h)]; exact q
  refine ⟨R.base.trans (Le.new hF), fun b u q => ?_, fun b m q => ?_, R.tabs.ext e, fun b ps q => ?_, scr_ext e R.scr⟩
  · by_cases hb : b = p
    · subst hb; rw [upd_same] at q ⊢; exact q
    · rw [upd_ne hb] at q ⊢; exact R.le b u q
  · obtain ⟨h1, h2⟩ := R.mo b m q
    have nb : b ≠ p := by
      rintro rfl
      obtain ⟨u, z⟩ := h2.there
      rw [h] at z; cases z
    refine ⟨by rw [upd_ne nb]; exact h1, (h2.le (Le.new hF)).grow e fun _ _ z => z⟩
  · by_cases hb : b = p
    · subst hb; rw [upd_same] at q; cases q; exact nt ps rfl
    · rw [upd_ne hb] at q; exact R.nt b ps q
/-- a new object that may change -/
theorem Rep.newM (R : Rep W F0 F M H) (h : H p = none) (hm : MIn F (updM M p m) (upd H p o) p m) : Rep W F0 F (updM M p m) (upd H p o) := by
  obtain ⟨hM, hF⟩ := R.fresh h
  have e : ∀ b u, H b = some u → upd H p o b = some u := fun b u q => by rw [upd_ne (ne_of_none q h)]; exact q
  refine ⟨R.base, fun b u q => e b u (R.le b u q), fun b m' q => ?_, R.tabs.ext e, R.nt, scr_ext e R.scr⟩
  by_cases hb : b = p
  · subst hb; rw [updM_same] at q; cases q; exact ⟨hF, hm⟩
  · rw [updM_ne hb] at q
    obtain ⟨h1, h2⟩ := R.mo b m' q
    exact ⟨h1, h2.grow e fun c _ z => by rw [updM_ne (fun z' => by rw [z', hM] at z; cases z)]; exact z⟩
/-- a thing of the store is written; o: what stands there then -/
theorem Rep.writeG (R : Rep W F0 F M H) (h : M a = some m) (nd : ∀ ws, m ≠ .deck ws) (np : ∀ o, m ≠ .part o) {m' : MO} (mt : ∀ ps, H a ≠ some (.tbl ps)) (ml : ∀ ob xs, H a ≠ some (.frz ob (.lst xs))) (hm : MIn F (updM M a m') (upd H a o) a m') : Rep W F0 F (updM M a m') (upd H a o) := by
  obtain ⟨hF, hin⟩ := R.mo a m h
  have ntab : ∀ b ps, H b = some (.tbl ps) → b ≠ a := fun b ps q z => by subst z; exact mt ps q
  refine ⟨R.base, fun b u q => ?_, fun b m2 q => ?_, fun p hp => ?_, R.nt, fun p hp => ?_⟩
  · have nb : b ≠ a := fun z => by rw [z, hF] at q; cases q
    rw [upd_ne nb]; exact R.le b u q
  · by_cases hb : b = a
    · subst hb; rw [updM_same] at q; cases q; exact ⟨hF, hm⟩
    · rw [updM_ne hb] at q
      obtain ⟨h1, h2⟩ := R.mo b m2 q
      refine ⟨h1, ?_⟩
      cases m2 with
      | lst ds => obtain ⟨xs, e, r⟩ := h2; exact ⟨xs, by rw [upd_ne hb]; exact e, r⟩
      | dic kvs => obtain ⟨xs, e, r⟩ := h2; exact ⟨xs, by rw [upd_ne hb]; exact e, r⟩
      | deck ws =>
        obtain ⟨l, cells, c1, c2, xs, e1, e2, e3, e4, e5⟩ := h2
        have nl : l ≠ a := fun z => by rw [z, h] at e1; exact np _ (Option.some.inj e1)
        exact ⟨l, cells, c1, c2, xs, by rw [updM_ne nl]; exact e1, by rw [upd_ne nl]; exact e2, e3, by rw [upd_ne hb]; exact e4, e5⟩
      | part => obtain ⟨u, e⟩ := h2; exact ⟨u, by rw [upd_ne hb]; exact e⟩
  · obtain ⟨ps, h1, h2, h3⟩ := R.tabs p hp
    refine ⟨ps, by rw [upd_ne (ntab _ _ h1)]; exact h1, h2, fun pos cv hc => ?_⟩
    obtain ⟨c, e1, e2⟩ := h3 pos cv hc
    refine ⟨c, e1, ?_⟩
    by_cases hca : c = a
    · subst hca
      exfalso
      cases m with
      | lst ds => obtain ⟨xs, e, _⟩ := hin; rw [e] at e2; unfold LamX.CodeO at e2; cases e2
      | dic kvs => obtain ⟨xs, e, _⟩ := hin; rw [e] at e2; unfold LamX.CodeO at e2; cases e2
      | deck ws => exact nd ws rfl
      | part o => exact np o rfl
    · rw [upd_ne hca]; exact e2
  · rcases R.scr p hp with ⟨o', z⟩ | z
    · have nb : p.1 ≠ a := fun q => by rw [q] at z; exact ml _ _ z
      exact .inl ⟨o', by rw [upd_ne nb]; exact z⟩
    · exact .inr z
theorem Rep.write (R : Rep W F0 F M H) (h : M a = some m) (nd : ∀ ws, m ≠ .deck ws) (np : ∀ o, m ≠ .part o) {m' : MO} (mu : Mut (H a)) (hm : MIn F (updM M a m') (upd H a o) a m') : Rep W F0 F (updM M a m') (upd H a o) :=
  R.writeG h nd np (fun ps e => by rw [e] at mu; exact mu) (fun ob xs e => by rw [e] at mu; exact mu) hm
end
end DL
set_option maxHeartbeats 2000000
namespace DL
open PySem PySem.Spec L2

abbrev Sl := List (Option D)
def Stt (F : Hp) (σ : St) (δ : Sl) : Prop := σ.length = δ.length ∧ ∀ (i : Nat) (d : D), δ[i]? = some (some d) → ∃ v, σ[i]? = some (some v) ∧ Rdd F d v
theorem Stt.le {F F' : Hp} {σ : St} {δ : Sl} (h : Stt F σ δ) (l : Le F F') : Stt F' σ δ := ⟨h.1, fun i d e => let ⟨v, q, r⟩ := h.2 i d e; ⟨v, q, r.le l⟩⟩
theorem Stt.set {F : Hp} {σ : St} {δ : Sl} {d : D} {v : V} (h : Stt F σ δ) (i : Nat) (r : Rdd F d v) : Stt F (σ.set i (some v)) (δ.set i (some d)) := by
  refine ⟨by simp [h.1], fun j e q => ?_⟩
  by_cases hj : j = i
  · subst hj
    have hl : j < δ.length := by
      have := (List.getElem?_eq_some_iff.mp q).1
      simpa using this
    rw [List.getElem?_set_self hl] at q
    cases q
    exact ⟨v, List.getElem?_set_self (by rw [h.1]; exact hl), r⟩
  · rw [List.getElem?_set_ne (Ne.symm hj)] at q
    rw [List.getElem?_set_ne (Ne.symm hj)]
    exact h.2 j e q
theorem Stt.forget {F : Hp} {σ : St} {δ : Sl} (h : Stt F σ δ) (i : Nat) : Stt F (σ.set i none) (δ.set i none) := by
  refine ⟨by simp [h.1], fun j e q => ?_⟩
  by_cases hj : j = i
  · subst hj
    have hl : j < δ.length := by
      have := (List.getElem?_eq_some_iff.mp q).1
      simpa using this
    rw [List.getElem?_set_self hl] at q
    cases q
  · rw [List.getElem?_set_ne (Ne.symm hj)] at q
    rw [List.getElem?_set_ne (Ne.symm hj)]
    exact h.2 j e q
def wipeD (δ : Sl) : List Nat → Sl
  | [] => δ
  | v :: vs => (wipeD δ vs).set v none
theorem Stt.wipe {F : Hp} {σ : St} {δ : Sl} (h : Stt F σ δ) : ∀ vs : List Nat, Stt F (L2.wipe σ vs) (wipeD δ vs)
  | [] => h
  | v :: vs => (Stt.wipe h vs).forget v

abbrev DKt := D → Sto → Prop
abbrev TED := Sl → Sto → DKt → Prop
abbrev TAD := Sl → Sto → (List D → Sto → Prop) → Prop
abbrev TTD := Sl → Sto → (Bool → Sto → Prop) → Prop
abbrev TGD := D → Sl → Sto → (Sl → Sto → Prop) → Prop
abbrev TGsD := List D → Sl → Sto → (Sl → Sto → Prop) → Prop
structure EndD where
  nx : Sl → Sto → Prop
  rt : DKt
  bk : Sl → Sto → Prop := fun _ _ => False
  ct : Sl → Sto → Prop := fun _ _ => False
abbrev TSD := EndD → Sl → Sto → Prop

def GoE (W : Wd) (F : Hp) (k : DKt) (Q : VK) : Prop := ∀ d M', k d M' → ∀ v F' H', Rep W F F' M' H' → Rdd F' d v → Q v H'
def GoS (W : Wd) (F : Hp) (k : Sl → Sto → Prop) (Q : St → Hp → Prop) : Prop := ∀ δ' M', k δ' M' → ∀ σ' F' H', Rep W F F' M' H' → Stt F' σ' δ' → Q σ' H'
structure GoD (W : Wd) (F : Hp) (d : EndD) (D : Ends) : Prop where
  nx : GoS W F d.nx D.nx
  rt : GoE W F d.rt D.rt
  bk : GoS W F d.bk D.bk
  ct : GoS W F d.ct D.ct

def LE (W : Wd) (F0 : Hp) (t : TED) : TE := fun σ H Q => ∃ δ F M k, Stt F σ δ ∧ Rep W F0 F M H ∧ t δ M k ∧ GoE W F k Q
def LT (W : Wd) (F0 : Hp) (t : TTD) : TT := fun σ H Q => ∃ (δ : Sl) (F : Hp) (M : Sto) (k : Bool → Sto → Prop), Stt F σ δ ∧ Rep W F0 F M H ∧ t δ M k ∧ ∀ b M', k b M' → ∀ F' H', Rep W F F' M' H' → Q b H'
def LA (W : Wd) (F0 : Hp) (t : TAD) : TA := fun σ H Q => ∃ (δ : Sl) (F : Hp) (M : Sto) (k : List D → Sto → Prop), Stt F σ δ ∧ Rep W F0 F M H ∧ t δ M k ∧ ∀ ds M', k ds M' → ∀ vs F' H', Rep W F F' M' H' → Rds F' ds vs → Q vs H'
def LS (W : Wd) (F0 : Hp) (t : TSD) : TS := fun D σ H => ∃ (δ : Sl) (F : Hp) (M : Sto) (d : EndD), Stt F σ δ ∧ Rep W F0 F M H ∧ t d δ M ∧ GoD W F d D
def LG (W : Wd) (F0 : Hp) (g : TGD) : TG := fun v σ H Q => ∃ (d : D) (δ : Sl) (F : Hp) (M : Sto) (k : Sl → Sto → Prop), Rdd F d v ∧ Stt F σ δ ∧ Rep W F0 F M H ∧ g d δ M k ∧ GoS W F k Q
def LGs (W : Wd) (F0 : Hp) (g : TGsD) : TGs := fun vs σ H Q => ∃ (ds : List D) (δ : Sl) (F : Hp) (M : Sto) (k : Sl → Sto → Prop), Rds F ds vs ∧ Stt F σ δ ∧ Rep W F0 F M H ∧ g ds δ M k ∧ GoS W F k Q

def PED (W : Wd) (F0 : Hp) (X : Cx) (e : Expr) (t : TED) : Prop := PE X e (LE W F0 t)
def PTD (W : Wd) (F0 : Hp) (X : Cx) (e : Expr) (t : TTD) : Prop := PT X e (LT W F0 t)
def PWD (W : Wd) (F0 : Hp) (X : Cx) (e : Expr) (t : TTD) : Prop := PW X e (LT W F0 t)
def PAD (W : Wd) (F0 : Hp) (X : Cx) (es : List Expr) (t : TAD) : Prop := PA X es (LA W F0 t)
def PSD (W : Wd) (F0 : Hp) (X : Cx) (st : Stmt) (t : TSD) : Prop := PS X st (LS W F0 t)
def PSsD (W : Wd) (F0 : Hp) (X : Cx) (st : List Stmt) (t : TSD) : Prop := PSs X st (LS W F0 t)
def PGD (W : Wd) (F0 : Hp) (X : Cx) (tg : Expr) (g : TGD) : Prop := PG X tg (LG W F0 g)
def PGsD (W : Wd) (F0 : Hp) (X : Cx) (tg : List Expr) (g : TGsD) : Prop := PGs X tg (LGs W F0 g)

section
variable {X : Cx} {e : Expr} {es : List Expr} {st : Stmt} {sts : List Stmt}
theorem PE.wk {t t' : TE} (h : PE X e t) (i : ∀ σ H Q, t' σ H Q → t σ H Q) : PE X e t' := ⟨fun pins s σ H Q I q => h.run pins s σ H Q I (i _ _ _ q)⟩
theorem PT.wk {t t' : TT} (h : PT X e t) (i : ∀ σ H Q, t' σ H Q → t σ H Q) : PT X e t' := ⟨fun pins s σ H Q I q => h.run pins s σ H Q I (i _ _ _ q)⟩
theorem PW.wk {t t' : TT} (h : PW X e t) (i : ∀ σ H Q, t' σ H Q → t σ H Q) : PW X e t' := ⟨fun wh pins s σ H Q I q => h.run wh pins s σ H Q I (i _ _ _ q)⟩
theorem PA.wk {t t' : TA} (h : PA X es t) (i : ∀ σ H Q, t' σ H Q → t σ H Q) : PA X es t' := ⟨fun pos pins s σ H Q I q => h.run pos pins s σ H Q I (i _ _ _ q)⟩
theorem PS.wk {t t' : TS} (h : PS X st t) (i : ∀ D σ H, t' D σ H → t D σ H) : PS X st t' := ⟨fun pins s σ H D I q => h.run pins s σ H D I (i _ _ _ q)⟩
theorem PSs.wk {t t' : TS} (h : PSs X sts t) (i : ∀ D σ H, t' D σ H → t D σ H) : PSs X sts t' := ⟨fun pins s σ H D I q => h.run pins s σ H D I (i _ _ _ q)⟩
theorem PG.wk {t t' : TG} (h : PG X e t) (i : ∀ v σ H Q, t' v σ H Q → t v σ H Q) : PG X e t' := ⟨fun pins s σ H v u Q I r q => h.run pins s σ H v u Q I r (i _ _ _ _ q)⟩
end

section
variable {W : Wd} {F0 : Hp} {X : Cx} {pos : Pos} {a b c e : Expr} {es : List Expr} {ta tb tc : TED} {t : TAD}
/-! ### names, constants -/
def dVar (i : Nat) : TED := fun δ M k => match δ[i]? with | some (some d) => k d M | _ => False
def dC (d : D) : TED := fun _ M k => k d M
theorem pd_var (i : Nat) {x : Str} (hN : X.N[i]? = some x := by rfl) (hv : Vis X.env.scope x := by first | exact Or.inl rfl | exact Or.inr (Or.inl rfl) | exact Or.inr (Or.inr rfl))
    (hd : (x == ("__debug__" : Str)) = false := by decide) (hcd : (x == ("__classdict__" : Str)) = false := by decide) : PED W F0 X (.Name x pos) (dVar i) :=
  PE.wk (pe_var hN hv hd hcd) fun σ H Q ⟨δ, F, M, k, hs, R, h, g⟩ => by
    unfold dVar at h
    split at h
    · rename_i d e
      obtain ⟨v, q, r⟩ := hs.2 i d e
      exact ⟨v, q, g _ _ h v F H R.here r⟩
    · exact h.elim
theorem pd_int {i j} : PED W F0 X (.Constant (.int i) j pos) (dC (.int i)) := PE.wk pe_int fun σ H Q ⟨δ, F, M, k, hs, R, h, g⟩ => g _ _ h _ F H R.here rfl
theorem pd_bl {i j} : PED W F0 X (.Constant (.bool i) j pos) (dC (.bl i)) := PE.wk pe_bl fun σ H Q ⟨δ, F, M, k, hs, R, h, g⟩ => g _ _ h _ F H R.here rfl
theorem pd_non {j} : PED W F0 X (.Constant .none j pos) (dC .non) := PE.wk pe_non fun σ H Q ⟨δ, F, M, k, hs, R, h, g⟩ => g _ _ h _ F H R.here rfl
theorem pd_str {i j} : PED W F0 X (.Constant (.str i) j pos) (dC (.str i)) := PE.wk pe_str fun σ H Q ⟨δ, F, M, k, hs, R, h, g⟩ => g _ _ h _ F H R.here rfl
/-- a module's constant that is no object, or an object by its address -/
theorem pd_glob {x : Str} {v : V} {d : D} {u : Value} (hg : Gl X x) (hm : X.mg x = some u) (r : RelV v u) (hd : ∀ F, Rdd F d v) (hdb : (x == ("__debug__" : Str)) = false := by decide) : PED W F0 X (.Name x pos) (dC d) :=
  PE.wk (pe_glob hg hm r hdb) fun σ H Q ⟨δ, F, M, k, hs, R, h, g⟩ => g _ _ h _ F H R.here (hd F)

/-! ### argument lists, displays -/
def dNil : TAD := fun _ M k => k [] M
def dCons (te : TED) (ta : TAD) : TAD := fun δ M k => te δ M fun d M1 => ta δ M1 fun ds M2 => k (d :: ds) M2
theorem pda_nil : PAD W F0 X [] dNil := PA.wk pa_nil fun σ H Q ⟨δ, F, M, k, hs, R, h, g⟩ => g _ _ h _ F H R.here rfl
theorem pda_cons (he : PED W F0 X e ta) (hr : PAD W F0 X es t) (hs : starEach (e :: es) X.env = (false, eval e X.env) :: starEach es X.env := by rfl) : PAD W F0 X (e :: es) (dCons ta t) :=
  PA.wk (pa_cons he hr hs) fun σ H Q ⟨δ, F, M, k, hs, R, h, g⟩ =>
    ⟨δ, F, M, _, hs, R, h, fun d M1 h1 v F1 H1 R1 r1 =>
      ⟨δ, F1, M1, _, hs.le R1.base, R1.rebase R.base, h1, fun ds M2 h2 vs F2 H2 R2 r2 => g _ _ h2 _ F2 H2 (R2.rebase R1.base) ⟨v, vs, rfl, r1.le R2.base, r2⟩⟩⟩
def dTup (t : TAD) : TED := fun δ M k => t δ M fun ds M1 => ds.length ≤ sizeLine ∧ k (.tup ds) M1
/-- a list that is never changed from now on -/
def dLst (t : TAD) : TED := fun δ M k => t δ M fun ds M1 => ds.length ≤ sizeLine ∧ k (.lst ds) M1
/-- a list that may change -/
def dLstM (t : TAD) : TED := fun δ M k => t δ M fun ds M1 => ds.length ≤ sizeLine ∧ ∀ p, M1 p = none → k (.ref p) (updM M1 p (.lst ds))
theorem pd_tup {x1} (h : PAD W F0 X es t) : PED W F0 X (.Tuple es x1 pos) (dTup t) :=
  PE.wk (pe_tup h) fun σ H Q ⟨δ, F, M, k, hs, R, h, g⟩ =>
    ⟨δ, F, M, _, hs, R, h, fun ds M1 ⟨hl, h1⟩ vs F1 H1 R1 r1 => ⟨by rw [← r1.length]; exact hl, fun p np =>
      g _ _ h1 _ _ _ (R1.newF np) ⟨p, vs, rfl, upd_same, r1.le (Le.new (R1.fresh np).2)⟩⟩⟩
theorem pd_lst (h : PAD W F0 X es t) : PED W F0 X (.List es pos) (dLst t) :=
  PE.wk (pe_lst h) fun σ H Q ⟨δ, F, M, k, hs, R, h, g⟩ =>
    ⟨δ, F, M, _, hs, R, h, fun ds M1 ⟨hl, h1⟩ vs F1 H1 R1 r1 => ⟨by rw [← r1.length]; exact hl, fun p np =>
      g _ _ h1 _ _ _ (R1.newF np) ⟨p, vs, rfl, upd_same, r1.le (Le.new (R1.fresh np).2)⟩⟩⟩
theorem pd_lstM (h : PAD W F0 X es t) : PED W F0 X (.List es pos) (dLstM t) :=
  PE.wk (pe_lst h) fun σ H Q ⟨δ, F, M, k, hs, R, h, g⟩ =>
    ⟨δ, F, M, _, hs, R, h, fun ds M1 ⟨hl, h1⟩ vs F1 H1 R1 r1 => ⟨by rw [← r1.length]; exact hl, fun p np =>
      g _ _ (h1 p (R1.fresh np).1) _ _ _ (R1.newM np ⟨vs, upd_same, r1⟩) rfl⟩⟩

/-! ### operators by values -/
abbrev R2D := D → D → Sto → DKt → Prop
abbrev R1D := D → Sto → DKt → Prop
def LR2 (W : Wd) (r : R2D) : R2 := fun x y H Q => ∃ F M k d e, Rep W F F M H ∧ Rdd F d x ∧ Rdd F e y ∧ r d e M k ∧ GoE W F k Q
def LR1 (W : Wd) (r : R1D) : V → Hp → VK → Prop := fun x H Q => ∃ F M k d, Rep W F F M H ∧ Rdd F d x ∧ r d M k ∧ GoE W F k Q
def OpD (W : Wd) (X : Cx) (f : Value → Value → Sem Value) (r : R2D) : Prop := OpR X f (LR2 W r)
def UnD (W : Wd) (X : Cx) (f : Value → Sem Value) (r : R1D) : Prop := UnR X f (LR1 W r)
abbrev RnD := List D → Sto → DKt → Prop
def LRn (W : Wd) (r : RnD) : List V → Hp → VK → Prop := fun xs H Q => ∃ F M k ds, Rep W F F M H ∧ Rds F ds xs ∧ r ds M k ∧ GoE W F k Q
def CallD (W : Wd) (X : Cx) (f : Value) (r : RnD) : Prop := CallR X f (LRn W r)
def dOp (r : R2D) (ta tb : TED) : TED := fun δ M k => ta δ M fun x M1 => tb δ M1 fun y M2 => r x y M2 k
def dUn (r : R1D) (ta : TED) : TED := fun δ M k => ta δ M fun x M1 => r x M1 k
def dCB (r : RnD) (t : TAD) : TED := fun δ M k => t δ M fun ds M1 => r ds M1 k
theorem tOp_of {r : R2D} {σ : St} {H : Hp} {Q : VK} (h : LE W F0 (dOp r ta tb) σ H Q) : tOp (LR2 W r) (LE W F0 ta) (LE W F0 tb) σ H Q :=
  let ⟨δ, F, M, k, hs, R, h, g⟩ := h
  ⟨δ, F, M, _, hs, R, h, fun d M1 h1 v F1 H1 R1 r1 => ⟨δ, F1, M1, _, hs.le R1.base, R1.rebase R.base, h1, fun d2 M2 h2 v2 F2 H2 R2 r2 =>
    ⟨F2, M2, k, d, d2, R2.here, r1.le R2.base, r2, h2, fun d3 M3 h3 v3 F3 H3 R3 r3 => g _ _ h3 _ _ _ (R3.rebase (R1.base.trans R2.base)) r3⟩⟩⟩
theorem pd_op {op : Operator} {r : R2D} (ho : OpD W X (binaryOp op) r) (ha : PED W F0 X a ta) (hb : PED W F0 X b tb) : PED W F0 X (.BinOp a op b pos) (dOp r ta tb) :=
  PE.wk (pe_op ho ha hb) fun _ _ _ => tOp_of
theorem pd_un {op : UnaryOp} {r : R1D} (ho : UnD W X (unaryOp op) r) (ha : PED W F0 X a ta) : PED W F0 X (.UnaryOp op a pos) (dUn r ta) :=
  PE.wk (pe_un ho ha) fun σ H Q ⟨δ, F, M, k, hs, R, h, g⟩ => ⟨δ, F, M, _, hs, R, h, fun d M1 h1 v F1 H1 R1 r1 =>
    ⟨F1, M1, k, d, R1.here, r1, h1, fun d3 M3 h3 v3 F3 H3 R3 r3 => g _ _ h3 _ _ _ (R3.rebase R1.base) r3⟩⟩
theorem pd_cmp {op : CmpOp} {r : R2D} (ho : OpD W X (compareOp op) r) (ha : PED W F0 X a ta) (hb : PED W F0 X b tb) (hm : behindInMarks op b = false) : PED W F0 X (.Compare a [op] [b] pos) (dOp r ta tb) :=
  PE.wk (pe_cmpR ho ha hb hm) fun _ _ _ => tOp_of
/-- the bool that a value is -/
def dTst (t : TED) : TTD := fun δ M k => t δ M fun d M1 => match d with | .bl b => k b M1 | _ => False
theorem ptd_cmp {op : CmpOp} {r : R2D} (ho : OpD W X (compareOp op) r) (ha : PED W F0 X a ta) (hb : PED W F0 X b tb) (hm : behindInMarks op b = false) : PTD W F0 X (.Compare a [op] [b] pos) (dTst (dOp r ta tb)) :=
  PT.wk (pt_cmpR ho ha hb hm) fun σ H Q ⟨δ, F, M, k, hs, R, h, g⟩ => tOp_of ⟨δ, F, M, _, hs, R, h, fun d M1 h1 v F1 H1 R1 r1 => by
    cases d with
    | bl b => exact ⟨b, r1, g b M1 h1 F1 H1 R1⟩
    | _ => exact h1.elim⟩
/-- any expression whose value is a bool, as a test -/
theorem ptd_val (h : PED W F0 X e ta) (he : ∀ whole, isTrue e X.env whole = (do let v ← whole; standAt e.pos; holding [v] (truthy v)) := by intro _; rfl) : PTD W F0 X e (dTst ta) :=
  PT.wk (pt_val h he) fun σ H Q ⟨δ, F, M, k, hs, R, h, g⟩ => ⟨δ, F, M, _, hs, R, h, fun d M1 h1 v F1 H1 R1 r1 => by
    cases d with
    | bl b => exact ⟨b, r1, g b M1 h1 F1 H1 R1⟩
    | _ => exact h1.elim⟩
theorem pd_callB {x : Str} {id : String} {p : Pos} {r : RnD} (hc : CallD W X (.builtin id) r) (hg : Gl X x) (hm : X.mg x = none) (hv : bootBuiltins x = some (.builtin id)) (ha : PAD W F0 X (e :: es) t) (hn : x ≠ "__name__" := by decide) (hdb : (x == ("__debug__" : Str)) = false := by decide)
    (he : starEach (e :: es) X.env = (false, eval e X.env) :: starEach es X.env := by rfl) (hpl : (backTo pos (starEach es X.env)).any (·.1) = false := by rfl) : PED W F0 X (.Call (.Name x p) (e :: es) [] pos) (dCB r t) :=
  PE.wk (pe_callB hc hg hm hv ha hn hdb he hpl) fun σ H Q ⟨δ, F, M, k, hs, R, h, g⟩ => ⟨δ, F, M, _, hs, R, h, fun ds M1 h1 vs F1 H1 R1 r1 =>
    ⟨F1, M1, k, ds, R1.here, r1, h1, fun d3 M3 h3 v3 F3 H3 R3 r3 => g _ _ h3 _ _ _ (R3.rebase R1.base) r3⟩⟩
theorem pd_callTy {x : Str} {T : String} {p : Pos} {r : RnD} (hc : CallD W X (.type T) r) (hg : Gl X x) (hm : X.mg x = none) (hv : bootBuiltins x = some (.type T)) (ha : PAD W F0 X (e :: es) t) (hn : x ≠ "__name__" := by decide) (hdb : (x == ("__debug__" : Str)) = false := by decide)
    (he : starEach (e :: es) X.env = (false, eval e X.env) :: starEach es X.env := by rfl) (hpl : (backTo pos (starEach es X.env)).any (·.1) = false := by rfl) : PED W F0 X (.Call (.Name x p) (e :: es) [] pos) (dCB r t) :=
  PE.wk (pe_callTy hc hg hm hv ha hn hdb he hpl) fun σ H Q ⟨δ, F, M, k, hs, R, h, g⟩ => ⟨δ, F, M, _, hs, R, h, fun ds M1 h1 vs F1 H1 R1 r1 =>
    ⟨F1, M1, k, ds, R1.here, r1, h1, fun d3 M3 h3 v3 F3 H3 R3 r3 => g _ _ h3 _ _ _ (R3.rebase R1.base) r3⟩⟩
end
end DL
set_option maxHeartbeats 2000000
namespace DL
open PySem PySem.Spec L2
section
variable {W : Wd} {F0 : Hp} {X : Cx} {pos : Pos} {a b c e : Expr} {es rest : List Expr} {ta tb tc te : TED} {t : TAD} {tt tu : TTD}
/-! ### and, or, not, if-else -/
def dAndV (ta tb : TED) : TED := fun δ M k => ta δ M fun x M1 => match x with | .bl true => tb δ M1 k | .bl false => k (.bl false) M1 | _ => False
def dOrV (ta tb : TED) : TED := fun δ M k => ta δ M fun x M1 => match x with | .bl true => k (.bl true) M1 | .bl false => tb δ M1 k | _ => False
def dNotV (ta : TED) : TED := fun δ M k => ta δ M fun x M1 => match x with | .bl b => k (.bl (!b)) M1 | _ => False
theorem pd_one {op} (h : PED W F0 X a ta) : PED W F0 X (.BoolOp op [a] pos) ta := pe_one h
theorem pd_and (ha : PED W F0 X a ta) (hb : PED W F0 X (.BoolOp .And (b :: rest) pos) tb) : PED W F0 X (.BoolOp .And (a :: b :: rest) pos) (dAndV ta tb) :=
  PE.wk (pe_and ha hb) fun σ H Q ⟨δ, F, M, k, hs, R, h, g⟩ => ⟨δ, F, M, _, hs, R, h, fun d M1 h1 v F1 H1 R1 r1 => by
    match d, h1, r1 with
    | .bl true, h1, r1 => exact ⟨true, r1, δ, F1, M1, k, hs.le R1.base, R1.rebase R.base, h1, fun d3 M3 h3 v3 F3 H3 R3 r3 => g _ _ h3 _ _ _ (R3.rebase R1.base) r3⟩
    | .bl false, h1, r1 => exact ⟨false, r1, g _ _ h1 _ _ _ R1 rfl⟩⟩
theorem pd_or (ha : PED W F0 X a ta) (hb : PED W F0 X (.BoolOp .Or (b :: rest) pos) tb) : PED W F0 X (.BoolOp .Or (a :: b :: rest) pos) (dOrV ta tb) :=
  PE.wk (pe_or ha hb) fun σ H Q ⟨δ, F, M, k, hs, R, h, g⟩ => ⟨δ, F, M, _, hs, R, h, fun d M1 h1 v F1 H1 R1 r1 => by
    match d, h1, r1 with
    | .bl false, h1, r1 => exact ⟨false, r1, δ, F1, M1, k, hs.le R1.base, R1.rebase R.base, h1, fun d3 M3 h3 v3 F3 H3 R3 r3 => g _ _ h3 _ _ _ (R3.rebase R1.base) r3⟩
    | .bl true, h1, r1 => exact ⟨true, r1, g _ _ h1 _ _ _ R1 rfl⟩⟩
theorem pd_not (ha : PED W F0 X a ta) : PED W F0 X (.UnaryOp .Not a pos) (dNotV ta) :=
  PE.wk (pe_not ha) fun σ H Q ⟨δ, F, M, k, hs, R, h, g⟩ => ⟨δ, F, M, _, hs, R, h, fun d M1 h1 v F1 H1 R1 r1 => by
    match d, h1, r1 with
    | .bl b, h1, r1 => exact ⟨b, r1, g _ _ h1 _ _ _ R1 rfl⟩⟩
def dAnd (tt tu : TTD) : TTD := fun δ M k => tt δ M fun b M1 => match b with | true => tu δ M1 k | false => k false M1
def dOr (tt tu : TTD) : TTD := fun δ M k => tt δ M fun b M1 => match b with | true => k true M1 | false => tu δ M1 k
def dNot (tt : TTD) : TTD := fun δ M k => tt δ M fun b M1 => k (!b) M1
theorem PWD.pt (h : PWD W F0 X a tt) : PTD W F0 X a tt := PW.pt h
theorem pwd_and1 (ha : PTD W F0 X a tt) : PWD W F0 X (.BoolOp .And [a] pos) tt := pw_and1 ha
theorem pwd_or1 (ha : PTD W F0 X a tt) : PWD W F0 X (.BoolOp .Or [a] pos) tt := pw_or1 ha
theorem pwd_and (ha : PTD W F0 X a tt) (hb : PWD W F0 X (.BoolOp .And (b :: rest) pos) tu) : PWD W F0 X (.BoolOp .And (a :: b :: rest) pos) (dAnd tt tu) :=
  PW.wk (pw_and ha hb) fun σ H Q ⟨δ, F, M, k, hs, R, h, g⟩ => ⟨δ, F, M, _, hs, R, h, fun d M1 h1 F1 H1 R1 => by
    cases d with
    | true => rw [if_pos rfl]; exact ⟨δ, F1, M1, k, hs.le R1.base, R1.rebase R.base, h1, fun b M2 h2 F2 H2 R2 => g b M2 h2 F2 H2 (R2.rebase R1.base)⟩
    | false => rw [if_neg Bool.false_ne_true]; exact g _ _ h1 _ _ R1⟩
theorem pwd_or (ha : PTD W F0 X a tt) (hb : PWD W F0 X (.BoolOp .Or (b :: rest) pos) tu) : PWD W F0 X (.BoolOp .Or (a :: b :: rest) pos) (dOr tt tu) :=
  PW.wk (pw_or ha hb) fun σ H Q ⟨δ, F, M, k, hs, R, h, g⟩ => ⟨δ, F, M, _, hs, R, h, fun d M1 h1 F1 H1 R1 => by
    cases d with
    | false => rw [if_neg Bool.false_ne_true]; exact ⟨δ, F1, M1, k, hs.le R1.base, R1.rebase R.base, h1, fun b M2 h2 F2 H2 R2 => g b M2 h2 F2 H2 (R2.rebase R1.base)⟩
    | true => rw [if_pos rfl]; exact g _ _ h1 _ _ R1⟩
theorem ptd_and (ha : PTD W F0 X a tt) (hb : PWD W F0 X (.BoolOp .And (b :: rest) pos) tu) : PTD W F0 X (.BoolOp .And (a :: b :: rest) pos) (dAnd tt tu) := PWD.pt (pwd_and ha hb)
theorem ptd_or (ha : PTD W F0 X a tt) (hb : PWD W F0 X (.BoolOp .Or (b :: rest) pos) tu) : PTD W F0 X (.BoolOp .Or (a :: b :: rest) pos) (dOr tt tu) := PWD.pt (pwd_or ha hb)
theorem ptd_not (ha : PTD W F0 X a tt) : PTD W F0 X (.UnaryOp .Not a pos) (dNot tt) :=
  PT.wk (pt_not ha) fun σ H Q ⟨δ, F, M, k, hs, R, h, g⟩ => ⟨δ, F, M, _, hs, R, h, fun d M1 h1 F1 H1 R1 => g _ _ h1 _ _ R1⟩
def dIf (tt : TTD) (ta tb : TED) : TED := fun δ M k => tt δ M fun b M1 => match b with | true => ta δ M1 k | false => tb δ M1 k
theorem pd_ifExp (hc : PTD W F0 X c tt) (ha : PED W F0 X a ta) (hb : PED W F0 X b tb) : PED W F0 X (.IfExp c a b pos) (dIf tt ta tb) :=
  PE.wk (pe_ifExp hc ha hb) fun σ H Q ⟨δ, F, M, k, hs, R, h, g⟩ => ⟨δ, F, M, _, hs, R, h, fun d M1 h1 F1 H1 R1 => by
    cases d with
    | false => rw [if_neg Bool.false_ne_true]; exact ⟨δ, F1, M1, k, hs.le R1.base, R1.rebase R.base, h1, fun d3 M3 h3 v3 F3 H3 R3 r3 => g _ _ h3 _ _ _ (R3.rebase R1.base) r3⟩
    | true => rw [if_pos rfl]; exact ⟨δ, F1, M1, k, hs.le R1.base, R1.rebase R.base, h1, fun d3 M3 h3 v3 F3 H3 R3 r3 => g _ _ h3 _ _ _ (R3.rebase R1.base) r3⟩⟩
/-- a op1 b op2 c -/
def dChain (r r' : R2D) (ta tb tc : TED) : TED := fun δ M k => ta δ M fun x M1 => tb δ M1 fun y M2 => r x y M2 fun z M3 => match z with
  | .bl true => tc δ M3 fun w' M4 => r' y w' M4 k | .bl false => k (.bl false) M3 | _ => False
theorem tChain_of {r r' : R2D} {σ : L2.St} {H : Hp} {Q : VK} (h : LE W F0 (dChain r r' ta tb tc) σ H Q) : tChain (LR2 W r) (LR2 W r') (LE W F0 ta) (LE W F0 tb) (LE W F0 tc) σ H Q :=
  let ⟨δ, F, M, k, hs, R, h, g⟩ := h
  ⟨δ, F, M, _, hs, R, h, fun d M1 h1 v F1 H1 R1 r1 => ⟨δ, F1, M1, _, hs.le R1.base, R1.rebase R.base, h1, fun d2 M2 h2 v2 F2 H2 R2 r2 =>
    ⟨F2, M2, _, d, d2, R2.here, r1.le R2.base, r2, h2, fun d3 M3 h3 v3 F3 H3 R3 r3 => by
      have l3 : Le F F3 := R1.base.trans (R2.base.trans R3.base)
      match d3, h3, r3 with
      | .bl false, h3, r3 => exact ⟨false, r3, g _ _ h3 _ _ _ (R3.rebase (R1.base.trans R2.base)) rfl⟩
      | .bl true, h3, r3 => exact ⟨true, r3, δ, F3, M3, _, hs.le l3, R3.rebase (R.base.trans (R1.base.trans R2.base)), h3, fun d4 M4 h4 v4 F4 H4 R4 r4 =>
          ⟨F4, M4, k, d2, d4, R4.here, r2.le (R3.base.trans R4.base), r4, h4, fun d5 M5 h5 v5 F5 H5 R5 r5 => g _ _ h5 _ _ _ (R5.rebase (l3.trans R4.base)) r5⟩⟩⟩⟩⟩
theorem pd_chain {op op' : CmpOp} {r r' : R2D} (ho : OpD W X (compareOp op) r) (ho' : OpD W X (compareOp op') r') (ha : PED W F0 X a ta) (hb : PED W F0 X b tb) (hc : PED W F0 X c tc)
    (hm : lastMarks [op, op'] [b, c] = false := by with_unfolding_all rfl) : PED W F0 X (.Compare a [op, op'] [b, c] pos) (dChain r r' ta tb tc) :=
  PE.wk (pe_chain ho ho' ha hb hc hm) fun _ _ _ => tChain_of
theorem ptd_chain {op op' : CmpOp} {r r' : R2D} (ho : OpD W X (compareOp op) r) (ho' : OpD W X (compareOp op') r') (ha : PED W F0 X a ta) (hb : PED W F0 X b tb) (hc : PED W F0 X c tc)
    (hm : lastMarks [op, op'] [b, c] = false := by with_unfolding_all rfl) : PTD W F0 X (.Compare a [op, op'] [b, c] pos) (dTst (dChain r r' ta tb tc)) :=
  PT.wk (pt_chain ho ho' ha hb hc hm) fun σ H Q ⟨δ, F, M, k, hs, R, h, g⟩ => tChain_of ⟨δ, F, M, _, hs, R, h, fun d M1 h1 v F1 H1 R1 r1 => by
    cases d with
    | bl b => exact ⟨b, r1, g b M1 h1 F1 H1 R1⟩
    | _ => exact h1.elim⟩
end

/-! ### statements -/
section
variable {W : Wd} {F0 : Hp} {X : Cx} {pos : Pos} {a b c e : Expr} {es : List Expr} {st : Stmt} {rest : List Stmt} {ta te : TED} {t : TAD} {tt : TTD} {ts tu : TSD} {g : TGD} {gs : TGsD}
theorem GoS.mono {F F1 : Hp} {k : Sl → Sto → Prop} {Q : L2.St → Hp → Prop} (h : GoS W F k Q) (l : Le F F1) : GoS W F1 k Q := fun δ' M' q σ' F' H' R s => h δ' M' q σ' F' H' (R.rebase l) s
theorem GoE.mono {F F1 : Hp} {k : DKt} {Q : VK} (h : GoE W F k Q) (l : Le F F1) : GoE W F1 k Q := fun d M' q v F' H' R s => h d M' q v F' H' (R.rebase l) s
theorem GoD.mono {F F1 : Hp} {d : EndD} {D : Ends} (h : GoD W F d D) (l : Le F F1) : GoD W F1 d D := ⟨h.nx.mono l, h.rt.mono l, h.bk.mono l, h.ct.mono l⟩
def dNext : TSD := fun D δ M => D.nx δ M
def dSeq (t u : TSD) : TSD := fun D δ M => t { D with nx := u D } δ M
theorem psd_nil : PSsD W F0 X [] dNext := PSs.wk pss_nil fun D σ H ⟨δ, F, M, d, hs, R, h, g⟩ => g.nx _ _ h _ _ _ R.here hs
theorem psd_cons (h1 : PSD W F0 X st ts) (h2 : PSsD W F0 X rest tu) : PSsD W F0 X (st :: rest) (dSeq ts tu) :=
  PSs.wk (pss_cons h1 h2) fun D σ H ⟨δ, F, M, d, hs, R, h, g⟩ =>
    ⟨δ, F, M, { d with nx := tu d }, hs, R, h, fun δ1 M1 q1 σ1 F1 H1 R1 s1 => ⟨δ1, F1, M1, d, s1, R1.rebase R.base, q1, g.mono R1.base⟩, g.rt, g.bk, g.ct⟩
theorem psd_one (h1 : PSD W F0 X st ts) : PSsD W F0 X [st] ts := pss_one h1
def dBreak : TSD := fun D δ M => D.bk δ M
def dCont : TSD := fun D δ M => D.ct δ M
theorem psd_pass : PSD W F0 X (.Pass pos) dNext := PS.wk ps_pass fun D σ H ⟨δ, F, M, d, hs, R, h, g⟩ => g.nx _ _ h _ _ _ R.here hs
theorem psd_break : PSD W F0 X (.Break pos) dBreak := PS.wk ps_break fun D σ H ⟨δ, F, M, d, hs, R, h, g⟩ => g.bk _ _ h _ _ _ R.here hs
theorem psd_continue : PSD W F0 X (.Continue pos) dCont := PS.wk ps_continue fun D σ H ⟨δ, F, M, d, hs, R, h, g⟩ => g.ct _ _ h _ _ _ R.here hs
def dDrop (te : TED) : TSD := fun D δ M => te δ M fun _ M1 => D.nx δ M1
theorem psd_expr (he : PED W F0 X e te) (hsw : swapsWith e none pos.line X.env = pure false := by rfl) : PSD W F0 X (.Expr e pos) (dDrop te) :=
  PS.wk (ps_expr he hsw) fun D σ H ⟨δ, F, M, d, hs, R, h, g⟩ => ⟨δ, F, M, _, hs, R, h, fun d1 M1 h1 v F1 H1 R1 r1 => g.nx _ _ h1 _ _ _ R1 (hs.le R1.base)⟩
def dRet (te : TED) : TSD := fun D δ M => te δ M D.rt
theorem psd_ret (he : PED W F0 X e te) : PSD W F0 X (.Return (some e) pos) (dRet te) :=
  PS.wk (ps_ret he) fun D σ H ⟨δ, F, M, d, hs, R, h, g⟩ => ⟨δ, F, M, _, hs, R, h, g.rt⟩
def dRetN : TSD := fun D _ M => D.rt .non M
theorem psd_retN : PSD W F0 X (.Return none pos) dRetN := PS.wk ps_retN fun D σ H ⟨δ, F, M, d, hs, R, h, g⟩ => g.rt _ _ h _ _ _ R.here rfl
def dIfS (tt : TTD) (t u : TSD) : TSD := fun D δ M => tt δ M fun b M1 => match b with | true => t D δ M1 | false => u D δ M1
theorem psd_if {as bs : List Stmt} (hc : PTD W F0 X c tt) (ha : PSsD W F0 X as ts) (hb : PSsD W F0 X bs tu) : PSD W F0 X (.If c as bs pos) (dIfS tt ts tu) :=
  PS.wk (ps_if hc ha hb) fun D σ H ⟨δ, F, M, d, hs, R, h, g⟩ => ⟨δ, F, M, _, hs, R, h, fun b M1 h1 F1 H1 R1 => by
    cases b with
    | true => rw [if_pos rfl]; exact ⟨δ, F1, M1, d, hs.le R1.base, R1.rebase R.base, h1, g.mono R1.base⟩
    | false => rw [if_neg Bool.false_ne_true]; exact ⟨δ, F1, M1, d, hs.le R1.base, R1.rebase R.base, h1, g.mono R1.base⟩⟩
/-! ### targets -/
def gNm (i : Nat) : TGD := fun d δ M k => k (δ.set i (some d)) M
theorem pgd_name (i : Nat) {x : Str} (hN : X.N.Nodup) (hi : X.N[i]? = some x := by rfl) (hx : Loc X.env.scope x := by first | exact Or.inl rfl | exact Or.inr rfl) (hf : X.fn x = true ∨ X.env.scope.names.lookup x = some .local := by first | exact .inl rfl | exact .inr rfl | assumption) : PGD W F0 X (.Name x pos) (gNm i) :=
  PG.wk (pg_name hN hi hx hf) fun v σ H Q ⟨d, δ, F, M, k, rd, hs, R, h, g⟩ => g _ _ h _ _ _ R.here (hs.set i rd)
def gNlD : TGsD := fun ds δ M k => match ds with | [] => k δ M | _ => False
def gCnD (t : TGD) (u : TGsD) : TGsD := fun ds δ M k => match ds with | d :: r => t d δ M fun δ1 M1 => u r δ1 M1 k | [] => False
theorem pgsd_nil : PGsD W F0 X [] gNlD :=
  ⟨fun pins s σ H vs us Q I r ⟨ds, δ, F, M, k, rd, hs, R, h, g⟩ => by
    cases ds with
    | nil => cases rd; exact pgs_nil.run pins s σ H [] us Q I r ⟨rfl, g _ _ h _ _ _ R.here hs⟩
    | cons _ _ => exact h.elim⟩
theorem pgsd_cons (h1 : PGD W F0 X e g) (h2 : PGsD W F0 X es gs)
    (hs : (assignEach (e :: es) X.env).map (·.2) = assign e X.env :: (assignEach es X.env).map (·.2) := by rfl) : PGsD W F0 X (e :: es) (gCnD g gs) :=
  ⟨fun pins s σ H vs us Q I r ⟨ds, δ, F, M, k, rd, hst, R, h, gg⟩ => by
    cases ds with
    | nil => exact h.elim
    | cons d ds =>
      obtain ⟨v, vr, rfl, rd1, rd2⟩ := rd
      exact (pgs_cons h1 h2 hs).run pins s σ H (v :: vr) us Q I r ⟨v, vr, rfl, d, δ, F, M, _, rd1, hst, R, h, fun δ1 M1 q1 σ1 F1 H1 R1 s1 =>
        ⟨ds, δ1, F1, M1, k, rd2.le R1.base, s1, R1.rebase R.base, q1, gg.mono R1.base⟩⟩⟩
/-- (a, b, ..) = a tuple of that length -/
def gTpD (n : Nat) (u : TGsD) : TGD := fun d δ M k => match d with | .tup ds => ds.length = n ∧ u ds δ M k | _ => False
theorem pgd_tup {x1 : Nat} {n : Nat} (hc : X.calm = true) (h : PGsD W F0 X es gs)
    (hn : (assignEach es X.env).length = n := by rfl) (hst : (assignEach es X.env).findIdx? (·.1) = none := by rfl) : PGD W F0 X (.Tuple es x1 pos) (gTpD n gs) :=
  PG.wk (pg_tup hc h hn hst) fun v σ H Q ⟨d, δ, F, M, k, rd, hs, R, h, g⟩ => by
    cases d with
    | tup ds =>
      obtain ⟨a, xs, rfl, ea, rr⟩ := rd
      obtain ⟨hl, h⟩ := h
      exact ⟨a, xs, rfl, SqT.of (R.le _ _ ea), by rw [← rr.length]; exact hl, ds, δ, F, M, k, rr, hs, R, h, g⟩
    | _ => exact h.elim
def dAsg (te : TED) (g : TGD) : TSD := fun D δ M => te δ M fun d M1 => g d δ M1 D.nx
theorem tAsg_of {D : Ends} {σ : L2.St} {H : Hp} (h : LS W F0 (dAsg te g) D σ H) : tAsg (LE W F0 te) (LG W F0 g) D σ H :=
  let ⟨δ, F, M, d, hs, R, h, gd⟩ := h
  ⟨δ, F, M, _, hs, R, h, fun d1 M1 h1 v F1 H1 R1 r1 => ⟨d1, δ, F1, M1, _, r1, hs.le R1.base, R1.rebase R.base, h1, gd.nx.mono R1.base⟩⟩
theorem psd_asg {tg : Expr} (he : PED W F0 X e te) (hg : PGD W F0 X tg g) (hs : swapsWithSole [tg] e pos.line X.env = pure false := by rfl) (hw : swappedStores [tg] e X.env = pure none := by rfl)
    (h1 : (assignEach [tg] X.env).map (·.2) = [assign tg X.env] := by rfl) : PSD W F0 X (.Assign [tg] e pos) (dAsg te g) := PS.wk (ps_asg he hg hs hw h1) fun _ _ _ => tAsg_of
def dSet (i : Nat) (te : TED) : TSD := fun D δ M => te δ M fun d M1 => D.nx (δ.set i (some d)) M1
theorem psd_set (i : Nat) {x : Str} {pos' : Pos} (hN : X.N.Nodup) (he : PED W F0 X e te) (hi : X.N[i]? = some x := by rfl) (hx : Loc X.env.scope x := by first | exact Or.inl rfl | exact Or.inr rfl) (hsw : swapsWith e (some (.Name x pos')) pos.line X.env = pure false := by rfl) (hf : X.fn x = true ∨ X.env.scope.names.lookup x = some .local := by first | exact .inl rfl | exact .inr rfl | assumption) :
    PSD W F0 X (.Assign [.Name x pos'] e pos) (dSet i te) :=
  PS.wk (ps_set hN hi hx he hsw hf) fun D σ H ⟨δ, F, M, d, hs, R, h, gd⟩ => ⟨δ, F, M, _, hs, R, h, fun d1 M1 h1 v F1 H1 R1 r1 => gd.nx _ _ h1 _ _ _ R1 ((hs.le R1.base).set i r1)⟩
/-- a, b = x, y with plain local names -/
def dPar (i j : Nat) (t : TAD) : TSD := fun D δ M => t δ M fun ds M1 => match ds with | [d, e] => D.nx ((δ.set i (some d)).set j (some e)) M1 | _ => False
theorem psd_par (i j : Nat) {x y : Str} {px py pt : Pos} {kt k2 pt2} (hc : X.calm = true) (hN : X.N.Nodup) (ha : PAD W F0 X [a, b] t) (hi : X.N[i]? = some x := by rfl) (hj : X.N[j]? = some y := by rfl) (hij : i ≠ j := by decide)
    (hx : X.env.scope.names.lookup x = some .local := by rfl) (hy : X.env.scope.names.lookup y = some .local := by rfl)
    (hw : swappedStores [.Tuple [.Name x px, .Name y py] kt pt] (.Tuple [a, b] k2 pt2) X.env = pure (some [x, y]) := by rfl)
    (hs : swapsWithSole [.Tuple [.Name x px, .Name y py] kt pt] (.Tuple [a, b] k2 pt2) pos.line X.env = pure false := by rfl) :
    PSD W F0 X (.Assign [.Tuple [.Name x px, .Name y py] kt pt] (.Tuple [a, b] k2 pt2) pos) (dPar i j t) :=
  PS.wk (ps_par hc hN hi hj hij hx hy ha hw hs) fun D σ H ⟨δ, F, M, d, hs, R, h, gd⟩ => ⟨δ, F, M, _, hs, R, h, fun ds M1 h1 vs F1 H1 R1 r1 => by
    match ds, h1, r1 with
    | [d1, d2], h1, ⟨v, _, e1, q1, w, _, e2, q2, e3⟩ =>
      subst e1; subst e2; cases e3
      exact ⟨v, w, rfl, gd.nx _ _ h1 _ _ _ R1 (((hs.le R1.base).set i q1).set j q2)⟩⟩
/-- a op= e, by values -/
def IpD (W : Wd) (X : Cx) (op : Operator) (r : R2D) : Prop := PIp X op (LR2 W r)
def dAug (i : Nat) (te : TED) (r : R2D) : TSD := fun D δ M => match δ[i]? with | some (some x) => te δ M fun y M1 => r x y M1 fun z M2 => D.nx (δ.set i (some z)) M2 | _ => False
theorem psd_aug (i : Nat) {x : Str} {op : Operator} {r : R2D} {pos' : Pos} (hN : X.N.Nodup) (he : PED W F0 X e te) (ho : IpD W X op r) (hi : X.N[i]? = some x := by rfl) (hx : Loc X.env.scope x := by first | exact Or.inl rfl | exact Or.inr rfl) (hf : X.fn x = true ∨ X.env.scope.names.lookup x = some .local := by first | exact .inl rfl | exact .inr rfl | assumption) :
    PSD W F0 X (.AugAssign (.Name x pos') op e pos) (dAug i te r) :=
  PS.wk (ps_aug hN hi hx he ho hf) fun D σ H ⟨δ, F, M, d, hs, R, h, gd⟩ => by
    unfold dAug at h
    split at h
    · rename_i x ex
      obtain ⟨v, ev, rv⟩ := hs.2 i x ex
      exact ⟨v, ev, δ, F, M, _, hs, R, h, fun d1 M1 h1 v1 F1 H1 R1 r1 => ⟨F1, M1, _, x, d1, R1.here, rv.le R1.base, r1, h1, fun d2 M2 h2 v2 F2 H2 R2 r2 =>
        gd.nx _ _ h2 _ _ _ (R2.rebase R1.base) ((hs.le (R1.base.trans R2.base)).set i r2)⟩⟩
    · exact h.elim
end

/-! ### what is walked: a known sequence of items -/
/-- J yields ds, one after the other, whatever the store holds -/
structure Gives (W : Wd) (J : It) (F : Hp) (ds : List D) : Prop where
  go : ∀ i F' M H, i < ds.length → Rep W F F' M H → J.go i H
  yld : ∀ i d F' M H x H', ds[i]? = some d → Rep W F F' M H → J.yld i H x H' → ∃ F2, Rep W F' F2 M H' ∧ Rdd F2 d x
  stop : ∀ F' M H, Rep W F F' M H → J.stop ds.length H
abbrev TID := Sl → Sto → (List D → Sto → Prop) → Prop
def LI (W : Wd) (F0 : Hp) (t : TID) : TI := fun σ H R => ∃ (δ : Sl) (F : Hp) (M : Sto) (k : List D → Sto → Prop), Stt F σ δ ∧ Rep W F0 F M H ∧ t δ M k ∧
  ∀ ds M', k ds M' → ∀ J F' H', Rep W F F' M' H' → Gives W J F' ds → R J H'
def PID (W : Wd) (F0 : Hp) (X : Cx) (tg iter : Expr) (t : TID) : Prop := PI X tg iter (LI W F0 t)
theorem PI.wk {X : Cx} {tg it : Expr} {t t' : TI} (h : PI X tg it t) (i : ∀ σ H R, t' σ H R → t σ H R) : PI X tg it t' := ⟨fun pins s σ H R I q => h.run pins s σ H R I (i _ _ _ q)⟩
section
variable {W : Wd} {F0 : Hp} {X : Cx} {pos : Pos} {a b c e tg iter : Expr} {es : List Expr} {body : List Stmt} {ta te : TED} {t : TAD} {tt : TTD} {tb : TSD} {g : TGD} {ti : TID}
theorem gives_list {F : Hp} {a : Addr} {ds : List D} {xs : List V} (h : F a = some (.lst xs)) (r : Rds F ds xs) : Gives W (Itl W.K a) F ds := by
  refine ⟨fun i F' M H hi R => ?_, fun i d F' M H x H' e R y => ?_, fun F' M H R => ?_⟩
  · have hx : i < xs.length := by rw [← r.length]; exact hi
    exact ⟨xs, xs[i], SqL.of (R.le _ _ (R.base _ _ h)), by simp [hx]⟩
  · obtain ⟨rfl, y⟩ := y
    obtain ⟨v, ev, rv⟩ := r.get e
    have q := y xs (SqL.of (R.le _ _ (R.base _ _ h)))
    rw [ev] at q; cases q
    exact ⟨F', R.here, rv.le R.base⟩
  · exact ⟨xs, SqL.of (R.le _ _ (R.base _ _ h)), by rw [r.length]; exact Nat.le_refl _⟩
theorem gives_tup {F : Hp} {a : Addr} {ds : List D} {xs : List V} (h : F a = some (.tup xs)) (r : Rds F ds xs) : Gives W (Itt W.K a) F ds := by
  refine ⟨fun i F' M H hi R => ?_, fun i d F' M H x H' e R y => ?_, fun F' M H R => ?_⟩
  · have hx : i < xs.length := by rw [← r.length]; exact hi
    exact ⟨xs, xs[i], SqT.of (R.le _ _ (R.base _ _ h)), by simp [hx]⟩
  · obtain ⟨rfl, y⟩ := y
    obtain ⟨v, ev, rv⟩ := r.get e
    have q := y xs (SqT.of (R.le _ _ (R.base _ _ h)))
    rw [ev] at q; cases q
    exact ⟨F', R.here, rv.le R.base⟩
  · exact ⟨xs, SqT.of (R.le _ _ (R.base _ _ h)), by rw [r.length]; exact Nat.le_refl _⟩
theorem gives_range {F : Hp} (lo : Int) (n : Nat) : Gives W (Itr lo n) F ((List.range n).map fun (i : Nat) => D.int (lo + (i : Int))) := by
  refine ⟨fun i F' M H hi R => ?_, fun i d F' M H x H' e R y => ?_, fun F' M H R => ?_⟩
  · show i < n
    simpa using hi
  · obtain ⟨rfl, rfl⟩ := y
    simp only [List.getElem?_map] at e
    by_cases hi : i < n
    · rw [List.getElem?_range hi] at e
      cases e
      exact ⟨F', R.here, rfl⟩
    · rw [List.getElem?_eq_none (by simpa using hi)] at e; cases e
  · show n ≤ _; simp
/-- over a list that is never changed -/
def dItL (te : TED) : TID := fun δ M k => te δ M fun d M1 => match d with | .lst ds => k ds M1 | _ => False
def dItT (te : TED) : TID := fun δ M k => te δ M fun d M1 => match d with | .tup ds => k ds M1 | _ => False
theorem pid_list (hW : X.K = W.K) (h : PED W F0 X e te) : PID W F0 X tg e (dItL te) :=
  PI.wk (pi_list h) fun σ H R ⟨δ, F, M, k, hs, Rp, h, gg⟩ => ⟨δ, F, M, _, hs, Rp, h, fun d M1 h1 v F1 H1 R1 r1 => by
    cases d with
    | lst ds =>
      obtain ⟨a, xs, rfl, ea, rr⟩ := r1
      exact ⟨a, rfl, ⟨xs, SqL.of (R1.le _ _ ea)⟩, hW ▸ gg ds M1 h1 _ F1 H1 R1 (gives_list ea rr)⟩
    | _ => exact h1.elim⟩
theorem pid_tup (hW : X.K = W.K) (h : PED W F0 X e te) : PID W F0 X tg e (dItT te) :=
  PI.wk (pi_tup h) fun σ H R ⟨δ, F, M, k, hs, Rp, h, gg⟩ => ⟨δ, F, M, _, hs, Rp, h, fun d M1 h1 v F1 H1 R1 r1 => by
    cases d with
    | tup ds =>
      obtain ⟨a, xs, rfl, ea, rr⟩ := r1
      exact ⟨a, rfl, ⟨xs, SqT.of (R1.le _ _ ea)⟩, hW ▸ gg ds M1 h1 _ F1 H1 R1 (gives_tup ea rr)⟩
    | _ => exact h1.elim⟩
def dItR1 (t : TAD) : TID := fun δ M k => t δ M fun ds M1 => match ds with | [.int j] => -(2 ^ 62) ≤ j ∧ j < 2 ^ 62 ∧ k ((List.range j.toNat).map fun (i : Nat) => D.int (i : Int)) M1 | _ => False
theorem pid_range1 {p : Pos} (hm : X.mg "range" = none) (ha : PAD W F0 X [a] t) (hg : Gl X "range" := by rfl) (hs : starEach [a] X.env = [(false, eval a X.env)] := by rfl) : PID W F0 X tg (.Call (.Name "range" p) [a] [] pos) (dItR1 t) :=
  PI.wk (pi_range1 hg hm ha hs) fun σ H R ⟨δ, F, M, k, hs, Rp, h, gg⟩ => ⟨δ, F, M, _, hs, Rp, h, fun ds M1 h1 vs F1 H1 R1 r1 => by
    match ds, h1, r1 with
    | [.int j], ⟨b1, b2, h1⟩, ⟨v, _, e1, q1, e2⟩ =>
      subst e1; cases e2; cases q1
      refine ⟨j, rfl, b1, b2, gg _ M1 h1 _ F1 H1 R1 ?_⟩
      have z := gives_range (W := W) (F := F1) 0 j.toNat
      simpa using z⟩
def dItR2 (t : TAD) : TID := fun δ M k => t δ M fun ds M1 => match ds with | [.int i, .int j] => (-(2 ^ 62) ≤ i ∧ i < 2 ^ 62 ∧ -(2 ^ 62) ≤ j ∧ j < 2 ^ 62) ∧ k ((List.range (j - i).toNat).map fun (n : Nat) => D.int (i + (n : Int))) M1 | _ => False
theorem pid_range2 {p : Pos} (hm : X.mg "range" = none) (ha : PAD W F0 X [a, b] t) (hg : Gl X "range" := by rfl) (hs : starEach [a, b] X.env = [(false, eval a X.env), (false, eval b X.env)] := by rfl) (hs2 : starEach [b] X.env = [(false, eval b X.env)] := by rfl) : PID W F0 X tg (.Call (.Name "range" p) [a, b] [] pos) (dItR2 t) :=
  PI.wk (pi_range2 hg hm ha hs hs2) fun σ H R ⟨δ, F, M, k, hs, Rp, h, gg⟩ => ⟨δ, F, M, _, hs, Rp, h, fun ds M1 h1 vs F1 H1 R1 r1 => by
    match ds, h1, r1 with
    | [.int i, .int j], ⟨bb, h1⟩, ⟨v, _, e1, q1, w, _, e2, q2, e3⟩ =>
      subst e1; subst e2; cases e3; cases q1; cases q2
      exact ⟨i, j, rfl, bb, gg _ M1 h1 _ F1 H1 R1 (gives_range i (j - i).toNat)⟩⟩

/-! ### for -/
def forD (g : TGD) (tb : TSD) : List D → TSD
  | [] => fun D δ M => D.nx δ M
  | d :: ds => fun D δ M => g d δ M fun δ2 M2 => tb { nx := fun δ3 M3 => forD g tb ds D δ3 M3, ct := fun δ3 M3 => forD g tb ds D δ3 M3, bk := D.nx, rt := D.rt } δ2 M2
def dFor (ti : TID) (g : TGD) (tb : TSD) : TSD := fun D δ M => ti δ M fun ds M1 => forD g tb ds D δ M1
theorem psd_for (hp : PassesOwn (model X.prog X.w) X.A X.env X.xe) (hc : X.calm = true) (hi : PID W F0 X tg iter ti) (hg : PGD W F0 X tg g) (hb : PSsD W F0 X body tb)
    (hs : ∀ x, foldedSetIterable iter X.env x = pure x := by intro _; rfl) : PSD W F0 X (.For tg iter body [] pos) (dFor ti g tb) :=
  PS.wk (ps_for hp hc hi hg hb hs) fun D σ H ⟨δ, F, M, dE, hst, R, h, gd⟩ => ⟨δ, F, M, _, hst, R, h, fun ds M1 h1 J F1 H1 R1 G => by
    refine ⟨fun i m σ' H' => i ≤ ds.length ∧ m = ds.length - i ∧ ∃ δ' F' M', Stt F' σ' δ' ∧ Rep W F1 F' M' H' ∧ forD g tb (ds.drop i) dE δ' M', ⟨_, Nat.zero_le _, rfl, δ, F1, M1, hst.le R1.base, R1.here, h1⟩, ?_⟩
    rintro i m σ' H' ⟨hi, rfl, δ', F', M', hs', R', h'⟩
    by_cases hlt : i < ds.length
    · refine .inr ⟨G.go i F' M' H' hlt R', fun σ2 H2 => i + 1 ≤ ds.length ∧ ∃ δ' F' M', Stt F' σ2 δ' ∧ Rep W F1 F' M' H2 ∧ forD g tb (ds.drop (i + 1)) dE δ' M', fun σ2 H2 ⟨z, w⟩ => ⟨ds.length - (i + 1), by omega, z, rfl, w⟩, fun x H2 y => ?_⟩
      rw [List.drop_eq_getElem_cons hlt] at h'
      obtain ⟨F2, R2, r2⟩ := G.yld i ds[i] F' M' H' x H2 (by simp [hlt]) R' y
      refine ⟨ds[i], δ', F2, M', _, r2, hs'.le R2.base, R2.rebase (R.base.trans (R1.base.trans R'.base)), h', fun δ3 M3 q3 σ3 F3 H3 R3 s3 => ?_⟩
      have l3 : Le F1 F3 := R'.base.trans (R2.base.trans R3.base)
      refine ⟨δ3, F3, M3, _, s3, R3.rebase (R.base.trans (R1.base.trans (R'.base.trans R2.base))), q3, ?_, gd.rt.mono (R1.base.trans l3), gd.nx.mono (R1.base.trans l3), ?_⟩
      · exact fun δ4 M4 q4 σ4 F4 H4 R4 s4 => ⟨hlt, δ4, F4, M4, s4, R4.rebase l3, q4⟩
      · exact fun δ4 M4 q4 σ4 F4 H4 R4 s4 => ⟨hlt, δ4, F4, M4, s4, R4.rebase l3, q4⟩
    · have e : i = ds.length := by omega
      subst e
      rw [List.drop_length] at h'
      exact .inl ⟨G.stop F' M' H' R', gd.nx _ _ h' _ _ _ (R'.rebase R1.base) hs'⟩⟩
/-! ### while: by a word and a measure -/
def dWhile (tt : TTD) (tb : TSD) : TSD := fun D δ M => ∃ P : Nat → Sl → Sto → Prop, (∃ m, P m δ M) ∧ ∀ m δ M, P m δ M →
  tt δ M fun b M1 => match b with | true => tb { D with nx := fun δ2 M2 => ∃ m', m' < m ∧ P m' δ2 M2, ct := fun δ2 M2 => ∃ m', m' < m ∧ P m' δ2 M2, bk := D.nx } δ M1 | false => D.nx δ M1
theorem psd_while (hp : PassesOwn (model X.prog X.w) X.A X.env X.xe) (hc : PTD W F0 X c tt) (hb : PSsD W F0 X body tb) : PSD W F0 X (.While c body [] pos) (dWhile tt tb) :=
  PS.wk (ps_while hp hc hb) fun D σ H ⟨δ, F, M, dE, hst, R, ⟨P, ⟨m0, p0⟩, turn⟩, gd⟩ => by
    refine ⟨fun m σ' H' => ∃ δ' F' M', Stt F' σ' δ' ∧ Rep W F F' M' H' ∧ P m δ' M', ⟨m0, δ, F, M, hst, R.here, p0⟩, ?_⟩
    rintro m σ' H' ⟨δ', F', M', hs', R', p'⟩
    refine ⟨δ', F', M', _, hs', R'.rebase R.base, turn m δ' M' p', fun b M1 h1 F1 H1 R1 => ?_⟩
    cases b with
    | true =>
      rw [if_pos rfl]
      refine ⟨fun σ2 H2 => ∃ m', m' < m ∧ ∃ δ' F' M', Stt F' σ2 δ' ∧ Rep W F F' M' H2 ∧ P m' δ' M', fun σ2 H2 z => z, δ', F1, M1, _, hs'.le R1.base, R1.rebase (R.base.trans R'.base), h1, ?_, gd.rt.mono (R'.base.trans R1.base), gd.nx.mono (R'.base.trans R1.base), ?_⟩
      · exact fun δ4 M4 ⟨m', hm, q4⟩ σ4 F4 H4 R4 s4 => ⟨m', hm, δ4, F4, M4, s4, R4.rebase (R'.base.trans R1.base), q4⟩
      · exact fun δ4 M4 ⟨m', hm, q4⟩ σ4 F4 H4 R4 s4 => ⟨m', hm, δ4, F4, M4, s4, R4.rebase (R'.base.trans R1.base), q4⟩
    | false =>
      rw [if_neg Bool.false_ne_true]
      exact gd.nx _ _ h1 _ _ _ (R1.rebase R'.base) (hs'.le R1.base)
end
end DL
set_option maxHeartbeats 2000000
namespace DL
open PySem PySem.Spec L2

/-! ### the store without a place; a list that is frozen -/
def delM (M : Sto) (p : Addr) : Sto := fun b => if b = p then none else M b
theorem delM_upd {M : Sto} {p : Addr} {o : MO} (h : M p = none) : delM (updM M p o) p = M := by
  funext b
  unfold delM updM
  by_cases hb : b = p
  · subst hb; simp [h]
  · simp [hb]
theorem Rep.freezeL {W : Wd} {F0 F : Hp} {M : Sto} {H : Hp} {p : Addr} {ds : List D} {xs : List V} (R : Rep W F0 F M H) (h : M p = some (.lst ds)) (e : H p = some (.lst xs)) (r : Rds F ds xs) :
    Rep W F0 (upd F p (.lst xs)) (delM M p) H ∧ Rdd (upd F p (.lst xs)) (.lst ds) (.ref p) := by
  have hF := (R.mo p _ h).1
  refine ⟨⟨R.base.trans (Le.new hF), fun b u q => ?_, fun b m q => ?_, R.tabs, fun b ps q => ?_, R.scr⟩, p, xs, rfl, upd_same, r.le (Le.new hF)⟩
  · by_cases hb : b = p
    · subst hb; rw [upd_same] at q; cases q; exact e
    · rw [upd_ne hb] at q; exact R.le b u q
  · unfold delM at q
    split at q
    · cases q
    · rename_i hb
      obtain ⟨h1, h2⟩ := R.mo b m q
      refine ⟨by rw [upd_ne hb]; exact h1, ?_⟩
      refine (h2.le (Le.new hF)).grow (fun _ _ z => z) fun c _ z => ?_
      unfold delM
      by_cases hc : c = p
      · subst hc; rw [h] at z; cases z
      · rw [if_neg hc]; exact z
  · by_cases hb : b = p
    · subst hb; rw [upd_same] at q; cases q
    · rw [upd_ne hb] at q; exact R.nt b ps q

/-! ### list comprehensions -/
def SimG (W : Wd) (gv : TG) (gd : TGD) (vs : List Nat) : Prop := ∀ (d : D) (v : V) (σ : L2.St) (δ : Sl) (F0 F : Hp) (M : Sto) (H : Hp) (k : Sl → Sto → Prop) (Q : L2.St → Hp → Prop), Rdd F d v → Stt F σ δ → Rep W F0 F M H → gd d δ M k →
  (∀ δ2 M2, k δ2 M2 → ∀ σ2 F2 H2, Rep W F F2 M2 H2 → Stt F2 σ2 δ2 → L2.wipe σ2 vs = L2.wipe σ vs → Q σ2 H2) → gv v σ H Q
theorem wipe_set {σ : L2.St} {i : Nat} {x : Option V} : ∀ {vs : List Nat}, i ∈ vs → L2.wipe (σ.set i x) vs = L2.wipe σ vs
  | [], h => by simp at h
  | v :: vs, h => by
    by_cases hv : i ∈ vs
    · show (L2.wipe (σ.set i x) vs).set v none = (L2.wipe σ vs).set v none
      rw [wipe_set hv]
    · rcases List.mem_cons.mp h with e | e
      · subst e
        show (L2.wipe (σ.set i x) vs).set i none = (L2.wipe σ vs).set i none
        have key : ∀ (vs : List Nat), i ∉ vs → L2.wipe (σ.set i x) vs = (L2.wipe σ vs).set i x := by
          intro vs
          induction vs with
          | nil => intro _; rfl
          | cons w ws ih =>
            intro hn
            show (L2.wipe (σ.set i x) ws).set w none = ((L2.wipe σ ws).set w none).set i x
            rw [ih fun z => hn (List.mem_cons_of_mem _ z), List.set_comm]
            exact fun z => hn (by rw [z]; exact List.mem_cons_self)
        rw [key vs hv, List.set_set]
      · exact absurd e hv
theorem sim_name {W : Wd} {i : Nat} {vs : List Nat} (hi : i ∈ vs) : SimG W (gName i) (gNm i) vs := fun d v σ δ F0 F M H k Q rd hs R h q =>
  q _ _ h _ F H R.here (hs.set i rd) (wipe_set hi)
def SimGs (W : Wd) (gv : TGs) (gd : TGsD) (vs : List Nat) : Prop := ∀ (ds : List D) (xs : List V) (σ : L2.St) (δ : Sl) (F0 F : Hp) (M : Sto) (H : Hp) (k : Sl → Sto → Prop) (Q : L2.St → Hp → Prop), Rds F ds xs → Stt F σ δ → Rep W F0 F M H → gd ds δ M k →
  (∀ δ2 M2, k δ2 M2 → ∀ σ2 F2 H2, Rep W F F2 M2 H2 → Stt F2 σ2 δ2 → L2.wipe σ2 vs = L2.wipe σ vs → Q σ2 H2) → gv xs σ H Q
theorem sims_nil {W : Wd} {vs : List Nat} : SimGs W gNil gNlD vs := fun ds xs σ δ F0 F M H k Q rd hs R h q => by
  cases ds with
  | nil => cases rd; exact ⟨rfl, q _ _ h _ F H R.here hs rfl⟩
  | cons _ _ => exact h.elim
theorem sims_cons {W : Wd} {g : TG} {gd : TGD} {u : TGs} {ud : TGsD} {vs : List Nat} (h1 : SimG W g gd vs) (h2 : SimGs W u ud vs) : SimGs W (gCons g u) (gCnD gd ud) vs := fun ds xs σ δ F0 F M H k Q rd hs R h q => by
  cases ds with
  | nil => exact h.elim
  | cons d ds =>
    obtain ⟨v, r, rfl, r1, r2⟩ := rd
    exact ⟨v, r, rfl, h1 d v σ δ F0 F M H _ _ r1 hs R h fun δ2 M2 k2 σ2 F2 H2 R2 s2 w2 => h2 ds r σ2 δ2 F F2 M2 H2 k Q (r2.le R2.base) s2 R2 k2 fun δ3 M3 k3 σ3 F3 H3 R3 s3 w3 => q δ3 M3 k3 σ3 F3 H3 (R3.rebase R2.base) s3 (w3.trans w2)⟩
theorem sim_tup {W : Wd} {n : Nat} {u : TGs} {ud : TGsD} {vs : List Nat} (h : SimGs W u ud vs) : SimG W (gTup W.K n u) (gTpD n ud) vs := fun d v σ δ F0 F M H k Q rd hs R hd q => by
  cases d with
  | tup ds =>
    obtain ⟨a, xs, rfl, ea, rr⟩ := rd
    obtain ⟨hl, hd⟩ := hd
    exact ⟨a, xs, rfl, SqT.of (R.le _ _ ea), by rw [← rr.length]; exact hl, h ds xs σ δ F0 F M H k Q rr hs R hd q⟩
  | _ => exact hd.elim
/-- p: the new list -/
def lcD (g : TGD) (tt : TTD) (te : TED) (vs : List Nat) (δ : Sl) (p : Addr) : List D → List D → Sto → (List D → Sto → Prop) → Prop
  | [], acc, M, k => k acc M
  | d :: ds, acc, M, k => g d (wipeD δ vs) (updM M p (.lst acc)) fun δ2 M2 => tt δ2 M2 fun b M3 => match b with
    | true => te δ2 M3 fun y M4 => acc.length < sizeLine ∧ ∃ M5, M5 p = none ∧ M4 = updM M5 p (.lst acc) ∧ lcD g tt te vs δ p ds (acc ++ [y]) M5 k
    | false => ∃ M5, M5 p = none ∧ M3 = updM M5 p (.lst acc) ∧ lcD g tt te vs δ p ds acc M5 k
def dLc (ti : TID) (g : TGD) (tt : TTD) (te : TED) (vs : List Nat) : TED := fun δ M k => ti δ M fun ds M1 => ∀ p, M1 p = none → lcD g tt te vs δ p ds [] M1 fun acc M2 => M2 p = none ∧ k (.lst acc) M2
def dLcM (ti : TID) (g : TGD) (tt : TTD) (te : TED) (vs : List Nat) : TED := fun δ M k => ti δ M fun ds M1 => ∀ p, M1 p = none → lcD g tt te vs δ p ds [] M1 fun acc M2 => M2 p = none ∧ k (.ref p) (updM M2 p (.lst acc))
def PTsD (W : Wd) (F0 : Hp) (X : Cx) (ifs : List Expr) (t : TTD) : Prop := PTs X ifs (LT W F0 t)
def dYes : TTD := fun _ M k => k true M
section
variable {W : Wd} {F0 : Hp} {X : Cx} {pos : Pos} {a b c e tg iter : Expr} {es : List Expr} {body : List Stmt} {ta te : TED} {t : TAD} {tt : TTD} {tb : TSD} {g : TGD} {gv : TG} {ti : TID}
theorem ptsd_nil : PTsD W F0 X [] dYes := ⟨fun pins s σ H Q I ⟨δ, F, M, k, hs, R, h, gg⟩ => pts_nil.run pins s σ H Q I (gg _ _ h _ _ R.here)⟩
theorem ptsd_one (h : PTD W F0 X c tt) : PTsD W F0 X [c] tt := pts_one h
theorem tLc_of {vs : List Nat} {σ : L2.St} {H : Hp} {Q : VK} {kd : Addr → List D → Sto → Prop} (sg : SimG W gv g vs) {δ : Sl} {F : Hp} {M : Sto} {k : List D → Sto → Prop} (hs : Stt F σ δ) (R : Rep W F0 F M H) (h : ti δ M k)
    (hk : ∀ ds M1, k ds M1 → ∀ p, M1 p = none → lcD g tt te vs δ p ds [] M1 fun acc M2 => M2 p = none ∧ kd p acc M2)
    (fin : ∀ p acc M2 F2 H2, kd p acc M2 → M2 p = none → Rep W F F2 (updM M2 p (.lst acc)) H2 → Q (.ref p) H2) :
    L2.tLc (LI W F0 ti) gv (LT W F0 tt) (LE W F0 te) vs σ H Q :=
  ⟨δ, F, M, _, hs, R, h, fun ds M1 h1 J F1 H1 R1 G p np => by
    have hM := (R1.fresh np).1
    have R1' : Rep W F F1 (updM M1 p (.lst [])) (upd H1 p (.lst [])) := R1.newM np ⟨[], upd_same, .nil⟩
    refine ⟨fun i m H' => i ≤ ds.length ∧ m = ds.length - i ∧ ∃ F' M' acc, M' p = none ∧ Rep W F1 F' (updM M' p (.lst acc)) H' ∧ lcD g tt te vs δ p (ds.drop i) acc M' (fun acc M2 => M2 p = none ∧ kd p acc M2), ⟨_, Nat.zero_le _, rfl, F1, M1, [], hM, R1'.here, hk ds M1 h1 p hM⟩, ?_⟩
    rintro i m H' ⟨hi, rfl, F', M', acc, nM, R', h'⟩
    by_cases hlt : i < ds.length
    · rw [List.drop_eq_getElem_cons hlt] at h'
      refine .inr ⟨G.go i F' _ H' hlt R', fun H2 => i + 1 ≤ ds.length ∧ ∃ F' M' acc, M' p = none ∧ Rep W F1 F' (updM M' p (.lst acc)) H2 ∧ lcD g tt te vs δ p (ds.drop (i + 1)) acc M' (fun acc M2 => M2 p = none ∧ kd p acc M2), fun H2 ⟨z, w⟩ => ⟨ds.length - (i + 1), by omega, z, rfl, w⟩, fun x H2 y => ?_⟩
      obtain ⟨F2, R2, r2⟩ := G.yld i ds[i] F' _ H' x H2 (by simp [hlt]) R' y
      have l2 : Le F F2 := R1.base.trans (R'.base.trans R2.base)
      refine sg ds[i] x _ (wipeD δ vs) F' F2 _ H2 _ _ r2 ((hs.le l2).wipe vs) R2 h' fun δ3 M3 q3 σ3 F3 H3 R3 s3 w3 => ⟨?_, ?_⟩
      · rw [w3]
        have wi : ∀ (vs : List Nat) (σ : L2.St), L2.wipe (L2.wipe σ vs) vs = L2.wipe σ vs := by
          intro vs σ
          have gen : ∀ (us : List Nat), (∀ u ∈ us, u ∈ vs) → ∀ (τ : L2.St), (∀ u ∈ vs, τ[u]? = some none ∨ τ[u]? = none) → L2.wipe τ us = τ := by
            intro us
            induction us with
            | nil => intro _ _ _; rfl
            | cons u us ih =>
              intro hu τ hτ
              show (L2.wipe τ us).set u none = τ
              rw [ih (fun z hz => hu z (List.mem_cons_of_mem _ hz)) τ hτ]
              rcases hτ u (hu u List.mem_cons_self) with e | e
              · apply List.ext_getElem?
                intro j
                by_cases hj : j = u
                · subst hj
                  obtain ⟨hl, _⟩ := List.getElem?_eq_some_iff.mp e
                  rw [List.getElem?_set_self hl, e]
                · rw [List.getElem?_set_ne (Ne.symm hj)]
              · exact List.set_eq_of_length_le (List.getElem?_eq_none_iff.mp e)
          refine gen vs (fun _ h => h) _ fun u hu => ?_
          have wl := wipe_length σ vs
          cases hg : (L2.wipe σ vs)[u]? with
          | none => exact .inr rfl
          | some o =>
            cases o with
            | none => exact .inl rfl
            | some x => exact absurd hu (wipe_some hg).2
        exact wi vs σ
      · refine ⟨δ3, F3, M3, _, s3, R3.rebase (R.base.trans l2), q3, fun b M4 q4 F4 H4 R4 => ?_⟩
        have l4 : Le F1 F4 := R'.base.trans (R2.base.trans (R3.base.trans R4.base))
        cases b with
        | false =>
          refine L2.iteF ?_
          obtain ⟨M5, n5, e5, q5⟩ := q4
          exact ⟨hlt, F4, M5, acc, n5, e5 ▸ R4.rebase (R'.base.trans (R2.base.trans R3.base)), q5⟩
        | true =>
          refine L2.iteT ?_
          refine ⟨δ3, F4, M4, _, s3.le R4.base, R4.rebase (R.base.trans (l2.trans R3.base)), q4, fun yd M6 ⟨hz, M5, n5, e5, q5⟩ yv F6 H6 R6 r6 => ?_⟩
          subst e5
          obtain ⟨hF6, xs, ex, rx⟩ := R6.mo p _ updM_same
          have l6 : Le F1 F6 := l4.trans R6.base
          refine ⟨xs, ex, by rw [← rx.length]; exact hz, hlt, F6, M5, acc ++ [yd], n5, ?_, q5⟩
          have Rw := (R6.rebase l4).write (a := p) (m := .lst acc) (m' := .lst (acc ++ [yd])) (o := .lst (xs ++ [yv])) updM_same (fun _ z => by cases z) (fun _ z => by cases z) (by rw [ex]; trivial) ⟨_, upd_same, rx.append (.cons r6 .nil)⟩
          have e7 : updM (updM M5 p (.lst acc)) p (.lst (acc ++ [yd])) = updM M5 p (.lst (acc ++ [yd])) := by
            funext b
            unfold updM
            split <;> rfl
          rw [e7] at Rw
          exact Rw
    · have e : i = ds.length := by omega
      subst e
      rw [List.drop_length] at h'
      obtain ⟨n2, hq⟩ := h'
      exact .inl ⟨G.stop F' _ H' R', fin p acc M' F' H' hq n2 (R'.rebase R1.base)⟩⟩
theorem pd_lc {elt : Expr} {ifs : List Expr} {scope : Scope} {own : List (Str × Nat)} (hc : X.calm = true) (hN : X.N.Nodup) (hi : PID W F0 X tg iter ti) (ok : BlkOk X.N X.env.scope scope own) (sg : SimG W gv g (own.map (·.2)))
    (hg : ∀ (s : Shared) (H : Hp) (C : Addr) (cl : List (Str × Addr)) (fp : List Addr), PG (X.blk s H scope (compEnvC scope cl C X.env) fp) tg gv) (ht : ∀ (s : Shared) (H : Hp) (C : Addr) (cl : List (Str × Addr)) (fp : List Addr), PTsD W F0 (X.blk s H scope (compEnvC scope cl C X.env) fp) ifs tt)
    (he : ∀ (s : Shared) (H : Hp) (C : Addr) (cl : List (Str × Addr)) (fp : List Addr), PED W F0 (X.blk s H scope (compEnvC scope cl C X.env) fp) elt te) (hs : ∀ x, foldedSetIterable iter X.env x = pure x := by intro _; rfl) :
    PED W F0 X (.ListComp elt [⟨tg, iter, ifs, 0⟩] scope pos) (dLc ti g tt te (own.map (·.2))) :=
  PE.wk (pe_lc hc hN hi ok hg ht he hs) fun σ H Q ⟨δ, F, M, k, hst, R, h, gg⟩ => tLc_of (kd := fun p acc M2 => k (.lst acc) M2) sg hst R h (fun ds M1 q p np => q p np) fun p acc M2 F2 H2 kq n2 R2 => by
    obtain ⟨hF2, xs, ex, rx⟩ := R2.mo p _ updM_same
    obtain ⟨R3, r3⟩ := R2.freezeL updM_same ex rx
    rw [delM_upd n2] at R3
    exact gg _ _ kq _ _ _ R3 r3
theorem pd_lcM {elt : Expr} {ifs : List Expr} {scope : Scope} {own : List (Str × Nat)} (hc : X.calm = true) (hN : X.N.Nodup) (hi : PID W F0 X tg iter ti) (ok : BlkOk X.N X.env.scope scope own) (sg : SimG W gv g (own.map (·.2)))
    (hg : ∀ (s : Shared) (H : Hp) (C : Addr) (cl : List (Str × Addr)) (fp : List Addr), PG (X.blk s H scope (compEnvC scope cl C X.env) fp) tg gv) (ht : ∀ (s : Shared) (H : Hp) (C : Addr) (cl : List (Str × Addr)) (fp : List Addr), PTsD W F0 (X.blk s H scope (compEnvC scope cl C X.env) fp) ifs tt)
    (he : ∀ (s : Shared) (H : Hp) (C : Addr) (cl : List (Str × Addr)) (fp : List Addr), PED W F0 (X.blk s H scope (compEnvC scope cl C X.env) fp) elt te) (hs : ∀ x, foldedSetIterable iter X.env x = pure x := by intro _; rfl) :
    PED W F0 X (.ListComp elt [⟨tg, iter, ifs, 0⟩] scope pos) (dLcM ti g tt te (own.map (·.2))) :=
  PE.wk (pe_lc hc hN hi ok hg ht he hs) fun σ H Q ⟨δ, F, M, k, hst, R, h, gg⟩ => tLc_of (kd := fun p acc M2 => k (.ref p) (updM M2 p (.lst acc))) sg hst R h (fun ds M1 q p np => q p np) fun p acc M2 F2 H2 kq n2 R2 => gg _ _ kq _ _ _ R2 rfl
/-- name = [..] on one line -/
theorem psd_setLc (i : Nat) {y : Str} {py spos : Pos} {elt : Expr} {ifs : List Expr} {scope : Scope} {own : List (Str × Nat)} (hc : X.calm = true) (hN : X.N.Nodup) (hi : PID W F0 X tg iter ti) (ok : BlkOk X.N X.env.scope scope own) (sg : SimG W gv g (own.map (·.2)))
    (hg : ∀ (s : Shared) (H : Hp) (C : Addr) (cl : List (Str × Addr)) (fp : List Addr), PG (X.blk s H scope (compEnvC scope cl C X.env) fp) tg gv) (ht : ∀ (s : Shared) (H : Hp) (C : Addr) (cl : List (Str × Addr)) (fp : List Addr), PTsD W F0 (X.blk s H scope (compEnvC scope cl C X.env) fp) ifs tt)
    (he : ∀ (s : Shared) (H : Hp) (C : Addr) (cl : List (Str × Addr)) (fp : List Addr), PED W F0 (X.blk s H scope (compEnvC scope cl C X.env) fp) elt te) (hsw : swapsWith (.ListComp elt [⟨tg, iter, ifs, 0⟩] scope pos) (some (.Name y py)) spos.line X.env = pure true)
    (hy : X.N[i]? = some y := by rfl) (hyl : X.env.scope.names.lookup y = some .local := by rfl) (hs : ∀ x, foldedSetIterable iter X.env x = pure x := by intro _; rfl) :
    PSD W F0 X (.Assign [.Name y py] (.ListComp elt [⟨tg, iter, ifs, 0⟩] scope pos) spos) (dSet i (dLc ti g tt te (own.map (·.2)))) :=
  PS.wk (ps_setLc hc hN hy hyl hsw hi ok hg ht he hs) fun Dn σ H ⟨δ, F, M, d, hst, R, h, gd⟩ => tLc_of (kd := fun p acc M2 => d.nx (δ.set i (some (.lst acc))) M2) sg hst R h (fun ds M1 q p np => q p np) fun p acc M2 F2 H2 kq n2 R2 => by
    obtain ⟨hF2, xs, ex, rx⟩ := R2.mo p _ updM_same
    obtain ⟨R3, r3⟩ := R2.freezeL updM_same ex rx
    rw [delM_upd n2] at R3
    exact gd.nx _ _ kq _ _ _ R3 ((hst.le R3.base).set i r3)
theorem psd_setLcM (i : Nat) {y : Str} {py spos : Pos} {elt : Expr} {ifs : List Expr} {scope : Scope} {own : List (Str × Nat)} (hc : X.calm = true) (hN : X.N.Nodup) (hi : PID W F0 X tg iter ti) (ok : BlkOk X.N X.env.scope scope own) (sg : SimG W gv g (own.map (·.2)))
    (hg : ∀ (s : Shared) (H : Hp) (C : Addr) (cl : List (Str × Addr)) (fp : List Addr), PG (X.blk s H scope (compEnvC scope cl C X.env) fp) tg gv) (ht : ∀ (s : Shared) (H : Hp) (C : Addr) (cl : List (Str × Addr)) (fp : List Addr), PTsD W F0 (X.blk s H scope (compEnvC scope cl C X.env) fp) ifs tt)
    (he : ∀ (s : Shared) (H : Hp) (C : Addr) (cl : List (Str × Addr)) (fp : List Addr), PED W F0 (X.blk s H scope (compEnvC scope cl C X.env) fp) elt te) (hsw : swapsWith (.ListComp elt [⟨tg, iter, ifs, 0⟩] scope pos) (some (.Name y py)) spos.line X.env = pure true)
    (hy : X.N[i]? = some y := by rfl) (hyl : X.env.scope.names.lookup y = some .local := by rfl) (hs : ∀ x, foldedSetIterable iter X.env x = pure x := by intro _; rfl) :
    PSD W F0 X (.Assign [.Name y py] (.ListComp elt [⟨tg, iter, ifs, 0⟩] scope pos) spos) (dSet i (dLcM ti g tt te (own.map (·.2)))) :=
  PS.wk (ps_setLc hc hN hy hyl hsw hi ok hg ht he hs) fun Dn σ H ⟨δ, F, M, d, hst, R, h, gd⟩ => tLc_of (kd := fun p acc M2 => d.nx (δ.set i (some (.ref p))) (updM M2 p (.lst acc))) sg hst R h (fun ds M1 q p np => q p np) fun p acc M2 F2 H2 kq n2 R2 =>
    gd.nx _ _ kq _ _ _ R2 ((hst.le R2.base).set i rfl)
end

/-! ### defs -/
abbrev XKD := Addr → List (Str × D) → Sto → Prop
abbrev SpD := List D → Sto → DKt → XKD → Prop
def GoX (W : Wd) (F : Hp) (e : XKD) (E : XK) : Prop := ∀ C fs M', e C fs M' → ∀ dd vs F' H', Rep W F F' M' H' → H' dd = some (.xd ((fs.map (·.1)).zip vs)) → Rds F' (fs.map (·.2)) vs → E (.ref C) (some dd) H'
theorem GoX.mono {W : Wd} {F F1 : Hp} {e : XKD} {E : XK} (h : GoX W F e E) (l : Le F F1) : GoX W F1 e E := fun C fs M' q dd vs F' H' R => h C fs M' q dd vs F' H' (R.rebase l)
def LSp (W : Wd) (sp : SpD) : Sp := fun vs H Q E => ∃ ds F M k e, Rds F ds vs ∧ Rep W F F M H ∧ sp ds M k e ∧ GoE W F k Q ∧ GoX W F e E
def X0 : XKD := fun _ _ _ => False
theorem goX0 {W : Wd} {F : Hp} {E : XK} : GoX W F X0 E := fun _ _ _ h => h.elim
def startD (N : List Str) (ds : List D) : Sl := ds.map some ++ List.replicate (N.length - ds.length) none
theorem stt_start {F : Hp} {N : List Str} {ds : List D} {vs : List V} (r : Rds F ds vs) : Stt F (L2.start N vs) (startD N ds) := by
  have hl := r.length
  refine ⟨by simp [L2.start, startD, hl], fun i d e => ?_⟩
  unfold startD at e
  by_cases hi : i < ds.length
  · rw [List.getElem?_append_left (by simpa using hi), List.getElem?_map] at e
    cases q : ds[i]? with
    | none => rw [q] at e; cases e
    | some d' =>
      rw [q] at e; cases e
      obtain ⟨v, ev, rv⟩ := r.get q
      refine ⟨v, ?_, rv⟩
      unfold L2.start
      rw [List.getElem?_append_left (by simpa [← hl] using hi), List.getElem?_map, ev]
      rfl
  · rw [List.getElem?_append_right (by simpa using hi), List.getElem?_replicate] at e
    split at e <;> cases e
theorem passN {X : Cx} : Passes (L2N.CX X.prog X.w) X E0 := fun _ _ _ _ _ _ _ ⟨_, _, _, _, _, _, _, _, _, _, _, _, z⟩ => z.elim
theorem okXN {P : Program} {w : World} {K : PySem.W.Frag} {mg : Str → Option Value} {base : Heap} {x qual : Str} {st : Stmt} {f : Addr} {fd : FuncData} {N ps : List Str} {k : Nat} {sp : Sp} {CX : CXT} (F : L2.Fun K x qual st f fd) (S : FnScope N ps (defScope st)) (len : ∀ vs H Q E, sp vs H Q E → vs.length = ps.length)
    (hbody : ∀ (cdv : Value) (A : Around) (outer : List Env) (s : Shared) (H : Hp) (vs : List V) (Q : VK) (E : XK), Room k (A.deeper (PyProof.Rows.envOfC qual (defScope st) s.heap.objs.size f cdv)) → sp vs H Q E →
      ∃ t, PSs (cxOf CX P w K mg base N qual (defScope st) f cdv A outer s H E) (defBody st) t ∧ t { nx := fun _ H' => Q .non H', rt := Q } (L2.start N vs) H) : FnOk P w K mg base CX (k + 1) f fd ps sp := by
  obtain ⟨oc, od, kV, doc, pm, an, cdv, ct, osl, rfl, lk, hcd⟩ := F.ex
  exact fn_of lk hcd S len fun A outer s H vs Q E hr hsp => hbody cdv A outer s H vs Q E hr hsp
/-- what this body wants of an exception that leaves it -/
def RzD (W : Wd) (F0 : Hp) (X : Cx) (e : Sl → XKD) : Prop := ∃ E : L2.St → XK, L2N.Takes X (fun cls d σ H => E σ cls d H) ∧ ∀ σ δ F, Le F0 F → Stt F σ δ → GoX W F (e δ) (E σ)
theorem RzD.le {W : Wd} {F0 F1 : Hp} {X : Cx} {e : Sl → XKD} (h : RzD W F0 X e) (l : Le F0 F1) : RzD W F1 X e := let ⟨E, a, b⟩ := h; ⟨E, a, fun σ δ F l2 => b σ δ F (l.trans l2)⟩
section
variable {P : Program} {w : World} {K : PySem.W.Frag} {mg : Str → Option Value} {base : Heap} {x qual : Str} {st : Stmt} {f : Addr} {fd : FuncData} {N ps : List Str} {k : Nat} {W : Wd} {sp : SpD}
abbrev FnD (P : Program) (w : World) (K : PySem.W.Frag) (mg : Str → Option Value) (base : Heap) (W : Wd) (k : Nat) (f : Addr) (fd : FuncData) (ps : List Str) (sp : SpD) : Prop := FnOk P w K mg base CX0 k f fd ps (LSp W sp)
abbrev FnDX (P : Program) (w : World) (K : PySem.W.Frag) (mg : Str → Option Value) (base : Heap) (W : Wd) (k : Nat) (f : Addr) (fd : FuncData) (ps : List Str) (sp : SpD) : Prop := FnOk P w K mg base (L2N.CX P w) k f fd ps (LSp W sp)
theorem lsp_len {n : Nat} (h : ∀ ds M k e, sp ds M k e → ds.length = n) : ∀ vs H Q E, LSp W sp vs H Q E → vs.length = n := fun vs H Q E ⟨ds, F, M, k, e, r, R, q, _⟩ => by rw [← r.length]; exact h _ _ _ _ q
/-- a def out of which nothing is raised -/
theorem okD (F : L2.Fun K x qual st f fd) (S : FnScope N ps (defScope st)) (len : ∀ ds M k e, sp ds M k e → ds.length = ps.length)
    (hbody : ∀ (cdv : Value) (A : Around) (outer : List Env) (s : Shared) (H : Hp) (E : XK) (F0 : Hp) (ds : List D) (M : Sto) (kk : DKt) (e : XKD), Room k (A.deeper (PyProof.Rows.envOfC qual (defScope st) s.heap.objs.size f cdv)) → sp ds M kk e →
      ∃ t : TSD, PSsD W F0 (cxOf CX0 P w K mg base N qual (defScope st) f cdv A outer s H E).nox (defBody st) t ∧ t { nx := fun _ M' => kk .non M', rt := kk } (startD N ds) M) : FnD P w K mg base W (k + 1) f fd ps sp :=
  F.ok S (lsp_len len) fun cdv A outer s H vs Q E hr ⟨ds, F0, M, kk, e, r, R, q, g, gx⟩ => by
    obtain ⟨t, h1, h2⟩ := hbody cdv A outer s H E F0 ds M kk e hr q
    exact ⟨_, h1, startD N ds, F0, M, _, stt_start r, R, h2, fun δ' M' q' σ' F' H' R' s' => g _ _ q' _ F' H' R' rfl, g, fun _ _ z => z.elim, fun _ _ z => z.elim⟩
/-- a def that may raise -/
theorem okDX (F : L2.Fun K x qual st f fd) (S : FnScope N ps (defScope st)) (len : ∀ ds M k e, sp ds M k e → ds.length = ps.length)
    (hbody : ∀ (cdv : Value) (A : Around) (outer : List Env) (s : Shared) (H : Hp) (E : XK) (F0 : Hp) (ds : List D) (M : Sto) (kk : DKt) (e : XKD), Room k (A.deeper (PyProof.Rows.envOfC qual (defScope st) s.heap.objs.size f cdv)) → RzD W F0 (cxOf (L2N.CX P w) P w K mg base N qual (defScope st) f cdv A outer s H E) (fun _ => e) → sp ds M kk e →
      ∃ t : TSD, PSsD W F0 (cxOf (L2N.CX P w) P w K mg base N qual (defScope st) f cdv A outer s H E) (defBody st) t ∧ t { nx := fun _ M' => kk .non M', rt := kk } (startD N ds) M) : FnDX P w K mg base W (k + 1) f fd ps sp :=
  okXN F S (lsp_len len) fun cdv A outer s H vs Q E hr ⟨ds, F0, M, kk, e, r, R, q, g, gx⟩ => by
    obtain ⟨t, h1, h2⟩ := hbody cdv A outer s H E F0 ds M kk e hr ⟨fun _ => E, L2N.takes_of rfl rfl rfl rfl, fun _ _ _ l _ => gx.mono l⟩ q
    exact ⟨_, h1, startD N ds, F0, M, _, stt_start r, R, h2, fun δ' M' q' σ' F' H' R' s' => g _ _ q' _ F' H' R' rfl, g, fun _ _ z => z.elim, fun _ _ z => z.elim⟩
end
/-! ### calls -/
def dCall (sp : SpD) (e : XKD) (t : TAD) : TED := fun δ M k => t δ M fun ds M1 => sp ds M1 k e
section
variable {W : Wd} {F0 : Hp} {X : Cx} {p pos : Pos} {a b c e : Expr} {es : List Expr} {ta te : TED} {t : TAD} {x : Str} {f : Addr} {fd : FuncData} {ps : List Str} {k : Nat} {sp : SpD} {dvs : List V} {dds : List D} {ds : List Value} {eD : XKD}
theorem tCall_of {σ : L2.St} {H : Hp} {Q : VK} {E : XK} (gx : GoX W F0 eD E) (h : LE W F0 (dCall sp eD t) σ H Q) : tCall (LSp W sp) [] E (LA W F0 t) σ H Q :=
  let ⟨δ, F, M, k, hs, R, h, g⟩ := h
  ⟨δ, F, M, _, hs, R, h, fun ds M1 h1 vs F1 H1 R1 r1 => by show LSp W sp (vs ++ []) H1 Q E; rw [List.append_nil]; exact ⟨ds, F1, M1, k, eD, r1, R1.here, h1, g.mono R1.base, gx.mono (R.base.trans R1.base)⟩⟩
/-- f(e, ..), nothing is raised -/
theorem pd_call (G : FnD X.prog X.w X.K X.mg X.base W k f fd ps sp) (hr : Room k X.A) (hm : X.mg x = some (.ref f)) (hk : PySem.W.keepIn X.K (.ref f) = true) (hb : Binds X.K fd ps [])
    (ha : PAD W F0 X (e :: es) t) (hg : Gl X x := by rfl) (hdb : (x == ("__debug__" : Str)) = false := by decide) (he : starEach (e :: es) X.env = (false, eval e X.env) :: starEach es X.env := by rfl) (hpl : (backTo pos (starEach es X.env)).any (·.1) = false := by rfl) :
    PED W F0 X (.Call (.Name x p) (e :: es) [] pos) (dCall sp X0 t) :=
  PE.wk (pe_call G hr hg hm hk hb .nil pass0 ha hdb he hpl) fun _ _ _ => tCall_of goX0
/-- of a def that may raise, here it does not -/
theorem pd_callN (G : FnDX X.prog X.w X.K X.mg X.base W k f fd ps sp) (hr : Room k X.A) (hm : X.mg x = some (.ref f)) (hk : PySem.W.keepIn X.K (.ref f) = true) (hb : Binds X.K fd ps [])
    (ha : PAD W F0 X (e :: es) t) (hg : Gl X x := by rfl) (hdb : (x == ("__debug__" : Str)) = false := by decide) (he : starEach (e :: es) X.env = (false, eval e X.env) :: starEach es X.env := by rfl) (hpl : (backTo pos (starEach es X.env)).any (·.1) = false := by rfl) :
    PED W F0 X (.Call (.Name x p) (e :: es) [] pos) (dCall sp X0 t) :=
  PE.wk (pe_call G hr hg hm hk hb .nil passN ha hdb he hpl) fun _ _ _ => tCall_of goX0
/-- .. what it raises leaves this def, too -/
def dCallS (sp : SpD) (e : Sl → XKD) (t : TAD) : TED := fun δ M k => t δ M fun ds M1 => sp ds M1 k (e δ)
theorem pd_callX {eS : Sl → XKD} (hR : RzD W F0 X eS) (G : FnDX X.prog X.w X.K X.mg X.base W k f fd ps sp) (hr : Room k X.A) (hm : X.mg x = some (.ref f)) (hk : PySem.W.keepIn X.K (.ref f) = true) (hb : Binds X.K fd ps [])
    (ha : PAD W F0 X (e :: es) t) (hg : Gl X x := by rfl) (hdb : (x == ("__debug__" : Str)) = false := by decide) (he : starEach (e :: es) X.env = (false, eval e X.env) :: starEach es X.env := by rfl) (hpl : (backTo pos (starEach es X.env)).any (·.1) = false := by rfl) :
    PED W F0 X (.Call (.Name x p) (e :: es) [] pos) (dCallS sp eS t) := by
  obtain ⟨E, tk, gx⟩ := hR
  exact PE.wk (pe_callSD G hr hg hm hk hb .nil (fun σ pins H s e s' I c => tk e s' (L2N.XE.of_call I (fun _ _ _ h => h) c)) ha hdb he hpl) fun σ H Q ⟨δ, F, M, k, hs, R, h, g⟩ =>
    ⟨δ, F, M, _, hs, R, h, fun ds M1 h1 vs F1 H1 R1 r1 => by show LSp W sp (vs ++ []) H1 Q (E σ); rw [List.append_nil]; exact ⟨ds, F1, M1, k, eS δ, r1, R1.here, h1, g.mono R1.base, (gx σ δ F R.base hs).mono R1.base⟩⟩
end
end DL
set_option maxHeartbeats 2000000
namespace DL
open PySem PySem.Spec L2
section
variable {W : Wd} {X : Cx}
theorem Rdd.tupT {F : Hp} {ds : List D} {x : V} {K : PySem.W.Frag} {H : Hp} (le : Le F H) (r : Rdd F (.tup ds) x) : ∃ a xs, x = .ref a ∧ H a = some (.tup xs) ∧ Rds F ds xs := let ⟨a, xs, e, q, t⟩ := r; ⟨a, xs, e, le _ _ q, t⟩
/-! ### + - * // % ** by values -/
def b2i (b : Bool) : Int := if b = true then 1 else 0
def rAdd : R2D := fun x y M k => match x, y with
  | .int i, .int j => k (.int (i + j)) M
  | .bl i, .int j => k (.int (b2i i + j)) M
  | .int i, .bl j => k (.int (i + b2i j)) M
  | .tup xs, .tup ys => xs.length + ys.length ≤ sizeLine ∧ k (.tup (xs ++ ys)) M
  | .lst xs, .lst ys => xs.length + ys.length ≤ sizeLine ∧ k (.lst (xs ++ ys)) M
  | .str a, .str b => a.length + b.length ≤ sizeLine ∧ k (.str (a ++ b)) M
  | _, _ => False
theorem od_add : OpD W X (binaryOp .Add) rAdd := by
  intro pins s σ H x y v u Q I rx ry ⟨F, M, k, d, e, R, rd, re, h, g⟩
  unfold rAdd at h
  split at h
  · cases rd; cases re
    exact op_add pins s σ H _ _ v u Q I rx ry ⟨_, _, rfl, rfl, g _ _ h _ F H R rfl⟩
  · cases rd; cases re
    cases rx; obtain ⟨t, rfl⟩ := ry
    exact PySem.IntBool.add_bool_int ⟨.int _, H, I.tok _, ⟨_, rfl⟩, g _ _ h _ F H R rfl⟩
  · cases rd; cases re
    exact op_add_ib pins s σ H _ _ v u Q I rx ry ⟨_, _, rfl, rfl, g _ _ h _ F H R rfl⟩
  · obtain ⟨a, xv, rfl, ea, ra⟩ := rd
    obtain ⟨b, yv, rfl, eb, rb⟩ := re
    obtain ⟨hz, h⟩ := h
    refine op_catA pins s σ H _ _ v u Q I rx ry ⟨a, b, xv, yv, rfl, rfl, SqT.of (R.le _ _ ea), SqT.of (R.le _ _ eb), by rw [← ra.length, ← rb.length]; exact hz, fun e => ?_, fun e1 e2 => ?_, fun e1 e2 p np => ?_⟩
    · subst e
      refine g _ _ h _ F H R ⟨b, yv, rfl, eb, ?_⟩
      have := ra.append rb
      simpa using this
    · subst e2
      refine g _ _ h _ F H R ⟨a, xv, rfl, ea, ?_⟩
      have := ra.append rb
      simpa using this
    · exact g _ _ h _ _ _ (R.newF np) ⟨p, _, rfl, upd_same, (ra.append rb).le (Le.new (R.fresh np).2)⟩
  · obtain ⟨a, xv, rfl, ea, ra⟩ := rd
    obtain ⟨b, yv, rfl, eb, rb⟩ := re
    obtain ⟨hz, h⟩ := h
    exact op_cat pins s σ H _ _ v u Q I rx ry ⟨a, b, xv, yv, rfl, rfl, R.le _ _ ea, R.le _ _ eb, by rw [← ra.length, ← rb.length]; exact hz, fun p np =>
      g _ _ h _ _ _ (R.newF np) ⟨p, _, rfl, upd_same, (ra.append rb).le (Le.new (R.fresh np).2)⟩⟩
  · cases rd; cases re
    exact op_add_str pins s σ H _ _ v u Q I rx ry ⟨_, _, rfl, rfl, h.1, g _ _ h.2 _ F H R rfl⟩
  · exact h.elim
def rSub : R2D := fun x y M k => match x, y with
  | .int i, .int j => k (.int (i - j)) M
  | .bl i, .int j => k (.int (b2i i - j)) M
  | _, _ => False
theorem od_sub : OpD W X (binaryOp .Sub) rSub := by
  intro pins s σ H x y v u Q I rx ry ⟨F, M, k, d, e, R, rd, re, h, g⟩
  unfold rSub at h
  split at h
  · cases rd; cases re
    exact op_sub pins s σ H _ _ v u Q I rx ry ⟨_, _, rfl, rfl, g _ _ h _ F H R rfl⟩
  · cases rd; cases re
    cases rx; obtain ⟨t, rfl⟩ := ry
    exact PySem.IntBool.sub_bool_int ⟨.int _, H, I.tok _, ⟨_, rfl⟩, g _ _ h _ F H R rfl⟩
  · exact h.elim
def MulOk (i j : Int) : Prop := CMul i j ∨ CMulW i j
theorem MulOk.ok {i j : Int} (h : MulOk i j) : IntMulOk i j := h.elim CMul.ok CMulW.ok
def rMul : R2D := fun x y M k => match x, y with
  | .int i, .int j => MulOk i j ∧ k (.int (i * j)) M
  | .int i, .bl j => k (.int (i * b2i j)) M
  | .tup xs, .int n => n ≤ 1000 ∧ -1000000 ≤ n ∧ xs.length ≤ 1000 ∧ k (.tup (List.replicate n.toNat xs).flatten) M
  | .lst xs, .int n => -1000000 ≤ n ∧ n ≤ 1000000 ∧ xs.length * n.toNat ≤ sizeLine ∧ k (.lst (List.replicate n.toNat xs).flatten) M
  | _, _ => False
def un_ok : Bool := true
def rPow : R2D := fun x y M k => match x, y with
  | .int i, .int j => CPow i j ∧ k (.int (i ^ j.toNat)) M
  | _, _ => False
theorem od_pow : OpD W X (binaryOp .Pow) rPow := by
  intro pins s σ H x y v u Q I rx ry ⟨F, M, k, d, e, R, rd, re, h, g⟩
  unfold rPow at h
  split at h
  · cases rd; cases re
    exact op_pow pins s σ H _ _ v u Q I rx ry ⟨_, _, rfl, rfl, h.1, g _ _ h.2 _ F H R rfl⟩
  · exact h.elim
def rMod : R2D := fun x y M k => match x, y with
  | .int i, .int j => 0 < j ∧ k (.int (i % j)) M
  | _, _ => False
theorem od_mod : OpD W X (binaryOp .Mod) rMod := by
  intro pins s σ H x y v u Q I rx ry ⟨F, M, k, d, e, R, rd, re, h, g⟩
  unfold rMod at h
  split at h
  · cases rd; cases re
    exact op_mod pins s σ H _ _ v u Q I rx ry ⟨_, _, rfl, rfl, h.1, g _ _ h.2 _ F H R rfl⟩
  · exact h.elim
def rDiv : R2D := fun x y M k => match x, y with
  | .int i, .int j => CDivW i j ∧ k (.int (i / j)) M
  | _, _ => False
theorem od_div : OpD W X (binaryOp .FloorDiv) rDiv := by
  intro pins s σ H x y v u Q I rx ry ⟨F, M, k, d, e, R, rd, re, h, g⟩
  unfold rDiv at h
  split at h
  · cases rd; cases re
    exact op_fdivW pins s σ H _ _ v u Q I rx ry ⟨_, _, rfl, rfl, h.1, g _ _ h.2 _ F H R rfl⟩
  · exact h.elim
theorem neg_bool {prog : Program} {w : World} {A : Around} {E : Value → Shared → Prop} {s : Shared} {b : Bool} {Q : Value → Shared → Prop} (h : Q (.int (-(b2i b)) s.toks) { s with toks := s.toks + 1 }) : wpAny (model prog w) A (unaryOp .USub (.bool b)) Q E s := by
  unfold unaryOp
  refine wpAny_holding ?_
  refine wpAny_bind (m := callSpecial? (.bool b) (Str.ofString "__neg__")) (wpAny_callSpecial?_slot (name := Str.ofString "__neg__") (typeIs_bool s b) PySem.F.slot_bool_neg
    (wpAny_call_entry PySem.F.slot_bool_neg (typeIs_bool s b) PySem.F.entry_int_neg ?_ (PySem.F.args_int_neg_1 _)))
  show wpAny _ _ (do ret (← mkInt (-(b2i b)))) _ _ s
  exact wpAny_ret_mkInt (wpAny_pure h)
def rNeg : R1D := fun x M k => match x with
  | .int i => k (.int (-i)) M
  | .bl b => k (.int (-(b2i b))) M
  | _ => False
theorem ud_neg : UnD W X (unaryOp .USub) rNeg := by
  intro pins s σ H x v Q I rx ⟨F, M, k, d, R, rd, h, g⟩
  unfold rNeg at h
  split at h
  · cases rd
    exact un_neg pins s σ H _ v Q I rx ⟨_, rfl, g _ _ h _ F H R rfl⟩
  · cases rd
    cases rx
    exact neg_bool ⟨.int _, H, I.tok _, ⟨_, rfl⟩, g _ _ h _ F H R rfl⟩
  · exact h.elim

def rAddI : R2D := fun x y M k => match x, y with
  | .int i, .int j => k (.int (i + j)) M
  | _, _ => False
theorem ip_addD : IpD W X .Add rAddI := by
  intro pins s σ H x y v u Q I rx ry ⟨F, M, k, d, e, R, rd, re, h, g⟩
  unfold rAddI at h
  split at h
  · cases rd; cases re
    exact ip_add pins s σ H _ _ v u Q I rx ry ⟨_, _, rfl, rfl, g _ _ h _ F H R rfl⟩
  · exact h.elim
def rSubI : R2D := fun x y M k => match x, y with
  | .int i, .int j => k (.int (i - j)) M
  | _, _ => False
theorem ip_subD : IpD W X .Sub rSubI := by
  intro pins s σ H x y v u Q I rx ry ⟨F, M, k, d, e, R, rd, re, h, g⟩
  unfold rSubI at h
  split at h
  · cases rd; cases re
    exact ip_sub pins s σ H _ _ v u Q I rx ry ⟨_, _, rfl, rfl, g _ _ h _ F H R rfl⟩
  · exact h.elim
theorem tuple_mulA (l : Addr) (items : Array Value) (n : Nat) (dd : Option Addr) (sl : Array (Option Value)) (x : Int) (u : Tok) (c0 : (decide (x < -(2 ^ 63)) || decide (x ≥ 2 ^ 63)) = false) (c1 : (items.isEmpty || x == 1) = true) :
    Meets (Builtin.«tuple.__mul__» ⟨[.ref l, .int x u], []⟩) (fun _ R s => s.heap.get? l = some { cls := .type "tuple", dict := dd, data := .seq items n, slots := sl } ∧ R (.ok (.ret (.ref l))) s) :=
  .of_wp fun prog w A R s h => by
    obtain ⟨hp, g, d, tk, os⟩ := s
    obtain ⟨hl, h⟩ := h
    have f1 := AutoSeq1.idx_int
    wp_walk using wpAny_loadPart' hl
    repeat (first
      | (refine wpAny_ite_false (decide_eq_false (by rw [c0]; exact Bool.false_ne_true)) ?_; wp_walk using wpAny_loadPart' hl)
      | (refine wpAny_ite_true (decide_eq_true c1) ?_; wp_walk using wpAny_loadPart' hl))
    exact ⟨_, rfl, h⟩
theorem tuple_mulB (l : Addr) (items : Array Value) (n : Nat) (dd : Option Addr) (sl : Array (Option Value)) (x : Int) (u : Tok) (c0 : (decide (x < -(2 ^ 63)) || decide (x ≥ 2 ^ 63)) = false) (c1 : (items.isEmpty || x == 1) = false) (c2 : (decide (x ≤ 0) || items.isEmpty) = true) :
    Meets (Builtin.«tuple.__mul__» ⟨[.ref l, .int x u], []⟩) (fun _ R s => s.heap.get? l = some { cls := .type "tuple", dict := dd, data := .seq items n, slots := sl } ∧
      R (.ok (.ret (Value.ref s.heap.objs.size))) { s with heap := s.heap.push { cls := Value.type "tuple", data := Data.seq #[] }, toks := s.toks }) :=
  .of_wp fun prog w A R s h => by
    obtain ⟨hp, g, d, tk, os⟩ := s
    obtain ⟨hl, h⟩ := h
    have f1 := AutoSeq1.idx_int
    wp_walk using wpAny_loadPart' hl
    repeat (first
      | (refine wpAny_ite_false (decide_eq_false (by rw [c0]; exact Bool.false_ne_true)) ?_; wp_walk using wpAny_loadPart' hl)
      | (refine wpAny_ite_false (decide_eq_false (by rw [c1]; exact Bool.false_ne_true)) ?_; wp_walk using wpAny_loadPart' hl)
      | (refine wpAny_ite_true (decide_eq_true c2) ?_; wp_walk using wpAny_loadPart' hl))
    exact ⟨_, rfl, h⟩

theorem Rds.rep {F : Hp} {ds : List D} {xs : List V} (r : Rds F ds xs) : ∀ n : Nat, Rds F (List.replicate n ds).flatten (List.replicate n xs).flatten
  | 0 => rfl
  | n + 1 => by
    rw [List.replicate_succ, List.replicate_succ, List.flatten_cons, List.flatten_cons]
    exact r.append (Rds.rep r n)
/-- a tuple * n, every n -/
theorem op_repA : OpR X (binaryOp .Mult) (fun x y H Q => ∃ l k xs, x = .ref l ∧ y = .int k ∧ SqT X.K H l xs ∧ k ≤ 1000 ∧ -1000000 ≤ k ∧ xs.length ≤ 1000 ∧
    ((xs = [] ∨ k = 1) → Q (.ref l) H) ∧ (¬ (xs = [] ∨ k = 1) → ∀ p, H p = none → Q (.ref p) (upd H p (.tup (List.replicate k.toNat xs).flatten)))) := by
  intro pins s σ H x y v u Q I rx ry h
  obtain ⟨l, k, xs, rfl, rfl, hT, h2, h1, hz, q1, q2⟩ := h
  by_cases hbig : xs ≠ [] ∧ 2 ≤ k
  · exact op_repT pins s σ H _ _ v u Q I rx ry ⟨l, k, xs, rfl, rfl, hT, hbig.1, hbig.2, h2, hz, q2 (by intro z; rcases z with z | z; exact hbig.1 z; omega)⟩
  · cases rx
    obtain ⟨t, rfl⟩ := ry
    obtain ⟨its, r, ⟨⟨cls, dd, data, sl⟩, ho, hc, n, hd⟩, hs⟩ := I.tuple hT
    simp only at hc hd
    subst hc hd
    have hle : its.length = xs.length := r.length.symm
    have hemp : its.toArray.isEmpty = xs.isEmpty := by
      cases r <;> simp
    have c0 : (decide (k < -(2 ^ 63)) || decide (k ≥ 2 ^ 63)) = false := by
      rw [decide_eq_false (by omega), decide_eq_false (by omega)] <;> rfl
    by_cases h1e : xs = [] ∨ k = 1
    · have c1 : (its.toArray.isEmpty || k == 1) = true := by
        rw [hemp]
        rcases h1e with z | z
        · subst z; rfl
        · subst z; simp
      refine wpAny_binaryOp_repeat_ref (T := "tuple") (U := "int") (by decide) ⟨_, ho, rfl⟩ (fun s' => typeIs_int s' k t) noFill_tuple_mul F.fills_int_mul F.slot_int_rmul repeat_tuple F.slot_int_index.lookup
        (call_meets F.slot_int_rmul (typeIs_int s k t) F.entry_int_rmul (F.args_int_rmul_2 _ _) (int_rmul_tuple k t l its.toArray n dd sl)
          ⟨ho, rfl, ⟨_, ho, rfl⟩, call_meets F.slot_tuple_mul ⟨_, ho, rfl⟩ F.entry_tuple_mul (F.args_tuple_mul_2 _ _) (tuple_mulA l its.toArray n dd sl k t c0 c1) ⟨ho, ?_⟩⟩)
      exact ⟨.ref l, H, I, rfl, q1 h1e⟩
    · have hk : k ≤ 0 := by
        have hx : xs ≠ [] := fun z => h1e (.inl z)
        have : ¬ 2 ≤ k := fun z => hbig ⟨hx, z⟩
        have : k ≠ 1 := fun z => h1e (.inr z)
        omega
      have c1 : (its.toArray.isEmpty || k == 1) = false := by
        rw [hemp]
        cases xs with
        | nil => exact absurd (.inl rfl) h1e
        | cons _ _ =>
          have : (k == 1) = false := beq_eq_false_iff_ne.mpr (by omega)
          rw [this]; rfl
      have c2 : (decide (k ≤ 0) || its.toArray.isEmpty) = true := by rw [decide_eq_true hk]; rfl
      refine wpAny_binaryOp_repeat_ref (T := "tuple") (U := "int") (by decide) ⟨_, ho, rfl⟩ (fun s' => typeIs_int s' k t) noFill_tuple_mul F.fills_int_mul F.slot_int_rmul repeat_tuple F.slot_int_index.lookup
        (call_meets F.slot_int_rmul (typeIs_int s k t) F.entry_int_rmul (F.args_int_rmul_2 _ _) (int_rmul_tuple k t l its.toArray n dd sl)
          ⟨ho, rfl, ⟨_, ho, rfl⟩, call_meets F.slot_tuple_mul ⟨_, ho, rfl⟩ F.entry_tuple_mul (F.args_tuple_mul_2 _ _) (tuple_mulB l its.toArray n dd sl k t c0 c1 c2) ⟨ho, ?_⟩⟩)
      have e0 : (List.replicate k.toNat xs).flatten = [] := by
        have : k.toNat = 0 := by omega
        rw [this]; rfl
      refine ⟨.ref s.heap.objs.size, _, I.laid (t' := s.toks) (o := .tup (List.replicate k.toNat xs).flatten) (fun b ob q => Heap.get?_push_of_some _ q) (Nat.le_refl _) ?_, rfl, q2 h1e _ (I.hok.fresh (Nat.le_refl _))⟩
      rw [e0]
      exact ⟨Nat.zero_le _, [], .nil, PyProof.Rows.IsTup.new _ _⟩
theorem od_mul : OpD W X (binaryOp .Mult) rMul := by
  intro pins s σ H x y v u Q I rx ry ⟨F, M, k, d, e, R, rd, re, h, g⟩
  unfold rMul at h
  split at h
  · cases rd; cases re
    obtain ⟨t, rfl⟩ := rx
    obtain ⟨t', rfl⟩ := ry
    exact PyProof.Rows.mul_int ⟨.int _, H, I.tok _, ⟨_, rfl⟩, g _ _ h.2 _ F H R rfl⟩ h.1.ok
  · cases rd; cases re
    obtain ⟨t, rfl⟩ := rx
    cases ry
    exact PySem.IntBool.mul_int_bool ⟨.int _, H, I.tok _, ⟨_, rfl⟩, g _ _ h _ F H R rfl⟩
  · rename_i xs n
    obtain ⟨a, xv, rfl, ea, ra⟩ := rd
    cases re
    obtain ⟨h1, h2, h3, h⟩ := h
    refine op_repA pins s σ H _ _ v u Q I rx ry ⟨a, n, xv, rfl, rfl, SqT.of (R.le _ _ ea), h1, h2, by rw [← ra.length]; exact h3, fun e => ?_, fun e p np => ?_⟩
    · refine g _ _ h _ F H R ⟨a, xv, rfl, ea, ?_⟩
      rcases e with e | e
      · subst e
        have e0 : xs = [] := List.eq_nil_of_length_eq_zero ra.length
        subst e0
        have : ∀ m : Nat, (List.replicate m ([] : List D)).flatten = [] := fun m => by induction m <;> simp_all [List.replicate_succ]
        rw [this]; exact ra
      · subst e
        simpa using ra
    · exact g _ _ h _ _ _ (R.newF np) ⟨p, _, rfl, upd_same, (ra.rep _).le (Le.new (R.fresh np).2)⟩
  · obtain ⟨a, xv, rfl, ea, ra⟩ := rd
    cases re
    obtain ⟨h1, h2, h3, h⟩ := h
    exact op_rep pins s σ H _ _ v u Q I rx ry ⟨a, _, xv, rfl, rfl, R.le _ _ ea, by omega, by omega, by rw [← ra.length]; exact h3, fun p np =>
      g _ _ h _ _ _ (R.newF np) ⟨p, _, rfl, upd_same, (ra.rep _).le (Le.new (R.fresh np).2)⟩⟩
  · exact h.elim

/-! ### comparisons by values -/
def rI2 (p : Int → Int → Bool) : R2D := fun x y M k => match x, y with
  | .int i, .int j => k (.bl (p i j)) M
  | _, _ => False
theorem od_I2 {op : CmpOp} {p : Int → Int → Bool} (ho : OpR X (compareOp op) (rI0 fun i j => .bl (p i j))) : OpD W X (compareOp op) (rI2 p) := by
  intro pins s σ H x y v u Q I rx ry ⟨F, M, k, d, e, R, rd, re, h, g⟩
  unfold rI2 at h
  split at h
  · cases rd; cases re
    exact ho pins s σ H _ _ v u Q I rx ry ⟨_, _, rfl, rfl, g _ _ h _ F H R rfl⟩
  · exact h.elim
def rLt : R2D := rI2 fun i j => decide (i < j)
def rLe : R2D := rI2 fun i j => decide (i ≤ j)
def rGt : R2D := rI2 fun i j => decide (j < i)
def rGe : R2D := rI2 fun i j => decide (j ≤ i)
theorem od_lt : OpD W X (compareOp .Lt) rLt := od_I2 op_lt
theorem od_le : OpD W X (compareOp .LtE) rLe := od_I2 op_le
theorem od_gt : OpD W X (compareOp .Gt) rGt := od_I2 op_gt
theorem od_ge : OpD W X (compareOp .GtE) rGe := od_I2 op_ge
/-- ==: ints, bools, texts, None beside one another; a list or a tuple beside an empty one -/
def eqD : D → D → Option Bool
  | .int i, .int j => some (decide (i = j))
  | .str i, .str j => some (decide (i = j))
  | .bl i, .bl j => some (decide (i = j))
  | .non, .non => some true
  | .lst xs, .lst [] => some xs.isEmpty
  | .tup xs, .tup [] => some xs.isEmpty
  | _, _ => none
def rEqq : R2D := fun x y M k => match eqD x y with | some b => k (.bl b) M | none => False
def rNee : R2D := fun x y M k => match eqD x y with | some b => k (.bl (!b)) M | none => False
theorem eqD_cases {x y : D} {b : Bool} (h : eqD x y = some b) : (∃ i j, x = .int i ∧ y = .int j ∧ b = decide (i = j)) ∨ (∃ i j, x = .str i ∧ y = .str j ∧ b = decide (i = j)) ∨ (∃ i j, x = .bl i ∧ y = .bl j ∧ b = decide (i = j)) ∨ (x = .non ∧ y = .non ∧ b = true) ∨
    (∃ xs, x = .lst xs ∧ y = .lst [] ∧ b = xs.isEmpty) ∨ (∃ xs, x = .tup xs ∧ y = .tup [] ∧ b = xs.isEmpty) := by
  unfold eqD at h
  split at h <;> cases h
  · exact .inl ⟨_, _, rfl, rfl, rfl⟩
  · exact .inr (.inl ⟨_, _, rfl, rfl, rfl⟩)
  · exact .inr (.inr (.inl ⟨_, _, rfl, rfl, rfl⟩))
  · exact .inr (.inr (.inr (.inl ⟨rfl, rfl, rfl⟩)))
  · exact .inr (.inr (.inr (.inr (.inl ⟨_, rfl, rfl, rfl⟩))))
  · exact .inr (.inr (.inr (.inr (.inr ⟨_, rfl, rfl, rfl⟩))))
theorem od_eq (hu : X.A.units < cLine) : OpD W X (compareOp .Eq) rEqq := by
  intro pins s σ H x y v u Q I rx ry ⟨F, M, k, d, e, R, rd, re, h, g⟩
  unfold rEqq at h
  split at h
  · rename_i b eb
    rcases eqD_cases eb with ⟨i, j, rfl, rfl, rfl⟩ | ⟨i, j, rfl, rfl, rfl⟩ | ⟨i, j, rfl, rfl, rfl⟩ | ⟨rfl, rfl, rfl⟩ | ⟨xs, rfl, rfl, rfl⟩ | ⟨xs, rfl, rfl, rfl⟩
    · cases rd; cases re
      exact op_eq pins s σ H _ _ v u Q I rx ry ⟨rfl, by have z := g _ _ h _ F H R rfl; simpa using z⟩
    · cases rd; cases re
      exact op_eq pins s σ H _ _ v u Q I rx ry ⟨rfl, by have z := g _ _ h _ F H R rfl; simpa using z⟩
    · cases rd; cases re
      exact op_eq pins s σ H _ _ v u Q I rx ry ⟨rfl, by have z := g _ _ h _ F H R rfl; simpa using z⟩
    · cases rd; cases re
      exact op_eq pins s σ H _ _ v u Q I rx ry ⟨rfl, by have z := g _ _ h _ F H R rfl; simpa using z⟩
    · obtain ⟨a, xv, rfl, ea, ra⟩ := rd
      obtain ⟨b, yv, rfl, eb2, rb⟩ := re
      cases rb
      cases rx; cases ry
      obtain ⟨its, r1, p1, z1⟩ := I.list (SqL.of (R.le _ _ ea))
      obtain ⟨its2, r2, p2, z2⟩ := I.list (SqL.of (R.le _ _ eb2))
      cases r2
      cases xs with
      | nil =>
        have hxv : xv = [] := ra
        subst hxv
        cases r1
        exact SeqAt.eq_listAt (e := fun _ => true) p1.isList p2.isList rfl hu (fun j h1 _ => absurd h1 (by simp)) ⟨.bl true, H, I, rfl, g _ _ h _ F H R rfl⟩
      | cons x0 xr =>
        obtain ⟨v0, vr, rfl, _, _⟩ := ra
        cases r1 with
        | cons _ _ => exact SeqAt.eq_list_lengthsAt p1.isList p2.isList (by simp) hu ⟨.bl false, H, I, rfl, g _ _ h _ F H R rfl⟩
    · obtain ⟨a, xv, rfl, ea, ra⟩ := rd
      obtain ⟨b, yv, rfl, eb2, rb⟩ := re
      cases rb
      cases rx; cases ry
      obtain ⟨its, r1, p1, z1⟩ := I.tuple (SqT.of (R.le _ _ ea))
      obtain ⟨its2, r2, p2, z2⟩ := I.tuple (SqT.of (R.le _ _ eb2))
      cases r2
      refine SeqAt.eq_tupleAt (e := fun _ => true) (show s.heap.IsTuple a its.toArray from p1) (show s.heap.IsTuple b _ from p2) hu (fun j _ h2 => absurd h2 (by simp)) ⟨.bl xs.isEmpty, H, I, ?_, g _ _ h _ F H R rfl⟩
      have : its.length = xs.length := by rw [← r1.length, ra.length]
      show Value.bool _ = Value.bool _
      congr 1
      cases xs with
      | nil => simp [List.length_eq_zero_iff.mp this]
      | cons x0 xr => cases its with
        | nil => simp at this
        | cons _ _ => simp
  · exact h.elim
theorem od_ne (hu : X.A.units < cLine) : OpD W X (compareOp .NotEq) rNee := by
  intro pins s σ H x y v u Q I rx ry ⟨F, M, k, d, e, R, rd, re, h, g⟩
  unfold rNee at h
  split at h
  · rename_i b eb
    rcases eqD_cases eb with ⟨i, j, rfl, rfl, rfl⟩ | ⟨i, j, rfl, rfl, rfl⟩ | ⟨i, j, rfl, rfl, rfl⟩ | ⟨rfl, rfl, rfl⟩ | ⟨xs, rfl, rfl, rfl⟩ | ⟨xs, rfl, rfl, rfl⟩
    · cases rd; cases re
      exact op_ne pins s σ H _ _ v u Q I rx ry ⟨rfl, by have z := g _ _ h _ F H R rfl; simpa using z⟩
    · cases rd; cases re
      exact op_ne pins s σ H _ _ v u Q I rx ry ⟨rfl, by have z := g _ _ h _ F H R rfl; simpa using z⟩
    · cases rd; cases re
      exact op_ne pins s σ H _ _ v u Q I rx ry ⟨rfl, by have z := g _ _ h _ F H R rfl; simpa using z⟩
    · cases rd; cases re
      exact op_ne pins s σ H _ _ v u Q I rx ry ⟨rfl, by have z := g _ _ h _ F H R rfl; simpa using z⟩
    · obtain ⟨a, xv, rfl, ea, ra⟩ := rd
      obtain ⟨b, yv, rfl, eb2, rb⟩ := re
      cases rb
      cases rx; cases ry
      obtain ⟨its, r1, p1, z1⟩ := I.list (SqL.of (R.le _ _ ea))
      obtain ⟨its2, r2, p2, z2⟩ := I.list (SqL.of (R.le _ _ eb2))
      cases r2
      cases xs with
      | nil =>
        have hxv : xv = [] := ra
        subst hxv
        cases r1
        exact SeqAt.RcNeAt.lists (e := fun _ => true) p1.isList p2.isList rfl hu (fun j h1 _ => absurd h1 (by simp)) _ _ _ _ ⟨.bl false, H, I, rfl, g _ _ h _ F H R rfl⟩
      | cons x0 xr =>
        obtain ⟨v0, vr, rfl, _, _⟩ := ra
        cases r1 with
        | cons _ _ => exact SeqAt.RcNeAt.lists_lengths p1.isList p2.isList (by simp) hu _ _ _ _ ⟨.bl true, H, I, rfl, g _ _ h _ F H R rfl⟩
    · obtain ⟨a, xv, rfl, ea, ra⟩ := rd
      obtain ⟨b, yv, rfl, eb2, rb⟩ := re
      cases rb
      cases rx; cases ry
      obtain ⟨its, r1, p1, z1⟩ := I.tuple (SqT.of (R.le _ _ ea))
      obtain ⟨its2, r2, p2, z2⟩ := I.tuple (SqT.of (R.le _ _ eb2))
      cases r2
      refine SeqAt.RcNeAt.tuples (e := fun _ => true) (show s.heap.IsTuple a its.toArray from p1) (show s.heap.IsTuple b _ from p2) hu (fun j _ h2 => absurd h2 (by simp)) _ _ _ _ ⟨.bl (!xs.isEmpty), H, I, ?_, g _ _ h _ F H R rfl⟩
      have : its.length = xs.length := by rw [← r1.length, ra.length]
      show Value.bool _ = Value.bool _
      congr 1
      cases xs with
      | nil => simp [List.length_eq_zero_iff.mp this]
      | cons x0 xr => cases its with
        | nil => simp at this
        | cons _ _ => simp
  · exact h.elim
end
end DL
set_option maxHeartbeats 2000000
namespace DL
open PySem PySem.Spec L2
section
variable {W : Wd} {X : Cx}
/-- a type as a value -/
theorem pd_ty {F0 : Hp} {x : Str} {n : String} {pos : Pos} (hg : Gl X x) (hm : X.mg x = none) (hv : bootBuiltins x = some (.type n)) (hn : x ≠ "__name__" := by decide) (hd : (x == ("__debug__" : Str)) = false := by decide) : PED W F0 X (.Name x pos) (dC (.ty n)) :=
  PE.wk (pe_bltn hg hm hv (v := .ty n) rfl hn hd) fun σ H Q ⟨δ, F, M, k, hs, R, h, g⟩ => g _ _ h _ F H R.here rfl
/-! ### isinstance -/
def tyD : D → Option String
  | .non => some "NoneType" | .bl _ => some "bool" | .int _ => some "int" | .str _ => some "str" | .tup _ => some "tuple" | .lst _ => some "list" | .dic _ _ => some "dict"
  | _ => none
def rIsi2 : RnD := fun ds M k => match ds with
  | [d, .ty T] => (match tyD d with
    | some t => (match kitB t T with | some b => k (.bl b) M | none => False)
    | none => False)
  | _ => False
theorem tyD_of {F : Hp} {H : Hp} (le : Le F H) : ∀ {d : D} {t : String} {v : V}, tyD d = some t → Rdd F d v → TyX X.K H v (.type t)
  | .non, _, _, h, r => by cases h; cases r; exact .base .non
  | .bl _, _, _, h, r => by cases h; cases r; exact .base (.bl _)
  | .int _, _, _, h, r => by cases h; cases r; exact .base (.int _)
  | .str _, _, _, h, r => by cases h; cases r; exact .base (.str _)
  | .tup _, _, _, h, ⟨a, xs, e, q, _⟩ => by cases h; subst e; exact .base (.tup (le _ _ q))
  | .lst _, _, _, h, ⟨a, xs, e, q, _⟩ => by cases h; subst e; exact .base (.lst (le _ _ q))
  | .dic _ _, _, _, h, ⟨a, xs, o, e, q, _, _⟩ => by cases h; subst e; exact .fDict (le _ _ q)
theorem cd_isi : CallD W X (.builtin "isinstance") rIsi2 := by
  intro pins s σ H xs us Q I r ⟨F, M, k, ds, R, rs, h, g⟩
  unfold rIsi2 at h
  split at h
  · rename_i d T
    split at h
    · rename_i t et
      split at h
      · rename_i b eb
        obtain ⟨v, _, rfl, r1, v2, _, rfl, r2, rfl⟩ := rs
        cases r2
        exact call_isi pins s σ H _ us Q I r ⟨v, .ty T, .type t, .type T, b, rfl, .ty T, tyD_of R.le et r1, kit_ty eb, g _ _ h _ F H R rfl⟩
      · exact h.elim
    · exact h.elim
  · exact h.elim
/-! ### len, all, any, sum, abs, max, min -/
def seqOf (M : Sto) : D → Option (List D)
  | .tup ds => some ds
  | .lst ds => some ds
  | .ref a => (match M a with | some (.lst ds) => some ds | _ => none)
  | _ => none
theorem seqOf_at {F0 F : Hp} {M : Sto} {H : Hp} {K : PySem.W.Frag} (R : Rep W F0 F M H) : ∀ {d : D} {ds : List D} {v : V}, seqOf M d = some ds → Rdd F d v → ∃ a xs, v = .ref a ∧ Rds F ds xs ∧ ((H a = some (.lst xs)) ∨ (H a = some (.tup xs)))
  | .tup _, _, _, h, ⟨a, xs, e, q, t⟩ => by cases h; exact ⟨a, xs, e, t, .inr (R.le _ _ q)⟩
  | .lst _, _, _, h, ⟨a, xs, e, q, t⟩ => by cases h; exact ⟨a, xs, e, t, .inl (R.le _ _ q)⟩
  | .ref a, ds, v, h, e => by
    have h : (match M a with | some (.lst ds) => some ds | _ => none) = some ds := h
    split at h
    · rename_i ds' em
      cases h
      obtain ⟨xs, q, t⟩ := (R.mo a _ em).2
      exact ⟨a, xs, e, t, .inl q⟩
    · cases h
/-- a list, not a tuple -/
def lstOf (M : Sto) : D → Option (List D)
  | .lst ds => some ds
  | .ref a => (match M a with | some (.lst ds) => some ds | _ => none)
  | _ => none
theorem lstOf_at {F0 F : Hp} {M : Sto} {H : Hp} (R : Rep W F0 F M H) : ∀ {d : D} {ds : List D} {v : V}, lstOf M d = some ds → Rdd F d v → ∃ a xs, v = .ref a ∧ Rds F ds xs ∧ H a = some (.lst xs)
  | .lst _, _, _, h, ⟨a, xs, e, q, t⟩ => by cases h; exact ⟨a, xs, e, t, R.le _ _ q⟩
  | .ref a, ds, v, h, e => by
    have h : (match M a with | some (.lst ds) => some ds | _ => none) = some ds := h
    split at h
    · rename_i ds' em
      cases h
      obtain ⟨xs, q, t⟩ := (R.mo a _ em).2
      exact ⟨a, xs, e, t, q⟩
    · cases h
def rLen : RnD := fun ds M k => match ds with
  | [.str x] => x.length ≤ sizeLine ∧ k (.int x.length) M
  | [d] => (match seqOf M d with | some xs => k (.int xs.length) M | none => False)
  | _ => False
theorem cd_len : CallD W X (.builtin "len") rLen := by
  intro pins s σ H xs us Q I r ⟨F, M, k, ds, R, rs, h, g⟩
  unfold rLen at h
  split at h
  · obtain ⟨v, _, rfl, r1, rfl⟩ := rs
    cases r1
    exact call_len pins s σ H _ us Q I r ⟨_, _, rfl, ⟨h.1, rfl⟩, g _ _ h.2 _ F H R rfl⟩
  · split at h
    · rename_i d _ ds' es
      obtain ⟨v, _, rfl, r1, rfl⟩ := rs
      obtain ⟨a, xs, rfl, t, q⟩ := seqOf_at (K := X.K) R es r1
      refine call_len_seq pins s σ H _ us Q I r ⟨a, xs, rfl, q.imp SqL.of SqT.of, ?_⟩
      exact g _ _ h _ F H R (by rw [t.length]; rfl)
    · exact h.elim
  · exact h.elim
def blsOf : List D → Option (List Bool)
  | [] => some []
  | .bl b :: r => (blsOf r).map (b :: ·)
  | _ => none
theorem blsOf_at {F : Hp} : ∀ {ds : List D} {bs : List Bool} {xs : List V}, blsOf ds = some bs → Rds F ds xs → xs = bs.map V.bl
  | [], _, _, h, r => by cases h; cases r; rfl
  | .bl b :: ds, bs, xs, h, ⟨x, r, e, q, t⟩ => by
    unfold blsOf at h
    cases e2 : blsOf ds with
    | none => rw [e2] at h; cases h
    | some cs =>
      rw [e2] at h; cases h
      cases q
      rw [e, blsOf_at e2 t]; rfl
theorem blsOf_map (bs : List Bool) : blsOf (bs.map D.bl) = some bs := by
  induction bs with
  | nil => rfl
  | cons b bs ih => simp [blsOf, ih]
def intsOf : List D → Option (List Int)
  | [] => some []
  | .int b :: r => (intsOf r).map (b :: ·)
  | _ => none
theorem intsOf_at {F : Hp} : ∀ {ds : List D} {bs : List Int} {xs : List V}, intsOf ds = some bs → Rds F ds xs → xs = bs.map V.int
  | [], _, _, h, r => by cases h; cases r; rfl
  | .int b :: ds, bs, xs, h, ⟨x, r, e, q, t⟩ => by
    unfold intsOf at h
    cases e2 : intsOf ds with
    | none => rw [e2] at h; cases h
    | some cs =>
      rw [e2] at h; cases h
      cases q
      rw [e, intsOf_at e2 t]; rfl
theorem intsOf_map (bs : List Int) : intsOf (bs.map D.int) = some bs := by
  induction bs with
  | nil => rfl
  | cons b bs ih => simp [intsOf, ih]
def rAllD : RnD := fun ds M k => match ds with
  | [d] => (match lstOf M d with | some xs => (match blsOf xs with | some bs => k (.bl (bs.all id)) M | none => False) | none => False)
  | _ => False
theorem cd_all (hc : X.calm = true) : CallD W X (.builtin "all") rAllD := by
  intro pins s σ H xs us Q I r ⟨F, M, k, ds, R, rs, h, g⟩
  unfold rAllD at h
  split at h
  · split at h
    · rename_i d ds' es
      split at h
      · rename_i bs eb
        obtain ⟨v, _, rfl, r1, rfl⟩ := rs
        obtain ⟨a, xs, rfl, t, q⟩ := lstOf_at R es r1
        exact cr_all hc pins s σ H _ us Q I r ⟨a, bs, rfl, SqL.of (by rw [q, blsOf_at eb t]), g _ _ h _ F H R rfl⟩
      · exact h.elim
    · exact h.elim
  · exact h.elim
def rAnyD : RnD := fun ds M k => match ds with
  | [d] => (match lstOf M d with | some xs => (match blsOf xs with | some bs => k (.bl (bs.any id)) M | none => False) | none => False)
  | _ => False
theorem cd_any (hc : X.calm = true) : CallD W X (.builtin "any") rAnyD := by
  intro pins s σ H xs us Q I r ⟨F, M, k, ds, R, rs, h, g⟩
  unfold rAnyD at h
  split at h
  · split at h
    · rename_i d ds' es
      split at h
      · rename_i bs eb
        obtain ⟨v, _, rfl, r1, rfl⟩ := rs
        obtain ⟨a, xs, rfl, t, q⟩ := lstOf_at R es r1
        exact cr_any hc pins s σ H _ us Q I r ⟨a, bs, rfl, SqL.of (by rw [q, blsOf_at eb t]), g _ _ h _ F H R rfl⟩
      · exact h.elim
    · exact h.elim
  · exact h.elim
def rSumD : RnD := fun ds M k => match ds with
  | [d] => (match lstOf M d with | some xs => (match intsOf xs with | some bs => k (.int bs.sum) M | none => False) | none => False)
  | _ => False
theorem cd_sum (hc : X.calm = true) : CallD W X (.builtin "sum") rSumD := by
  intro pins s σ H xs us Q I r ⟨F, M, k, ds, R, rs, h, g⟩
  unfold rSumD at h
  split at h
  · split at h
    · rename_i d ds' es
      split at h
      · rename_i bs eb
        obtain ⟨v, _, rfl, r1, rfl⟩ := rs
        obtain ⟨a, xs, rfl, t, q⟩ := lstOf_at R es r1
        exact cr_sum hc pins s σ H _ us Q I r ⟨a, bs, rfl, SqL.of (by rw [q, intsOf_at eb t]), g _ _ h _ F H R rfl⟩
      · exact h.elim
    · exact h.elim
  · exact h.elim
def rAbs : RnD := fun ds M k => match ds with
  | [.int i] => k (.int (if i < 0 then -i else i)) M
  | _ => False
theorem cd_abs : CallD W X (.builtin "abs") rAbs := by
  intro pins s σ H xs us Q I r ⟨F, M, k, ds, R, rs, h, g⟩
  unfold rAbs at h
  split at h
  · obtain ⟨v, _, rfl, r1, rfl⟩ := rs
    cases r1
    exact call_abs pins s σ H _ us Q I r ⟨_, rfl, g _ _ h _ F H R rfl⟩
  · exact h.elim
def rMaxD : RnD := fun ds M k => match ds with
  | [.int i, .int j] => k (.int (if j > i then j else i)) M
  | [d] => (match lstOf M d with | some xs => (match intsOf xs with | some bs => 0 < bs.length ∧ ∀ m, m ∈ bs → (∀ y, y ∈ bs → y ≤ m) → k (.int m) M | none => False) | none => False)
  | _ => False
theorem cd_max (hc : X.calm = true) : CallD W X (.builtin "max") rMaxD := by
  intro pins s σ H xs us Q I r ⟨F, M, k, ds, R, rs, h, g⟩
  unfold rMaxD at h
  split at h
  · obtain ⟨v, _, rfl, r1, v2, _, rfl, r2, rfl⟩ := rs
    cases r1; cases r2
    exact call_max2 hc pins s σ H _ us Q I r ⟨_, _, rfl, g _ _ h _ F H R rfl⟩
  · split at h
    · rename_i d ds' es
      split at h
      · rename_i bs eb
        obtain ⟨v, _, rfl, r1, rfl⟩ := rs
        obtain ⟨a, xs, rfl, t, q⟩ := lstOf_at R es r1
        exact cr_max hc pins s σ H _ us Q I r ⟨a, bs, rfl, SqL.of (by rw [q, intsOf_at eb t]), h.1, fun m h1 h2 => g _ _ (h.2 m h1 h2) _ F H R rfl⟩
      · exact h.elim
    · exact h.elim
  · exact h.elim
def rMinD : RnD := fun ds M k => match ds with
  | [.int i, .int j] => k (.int (if j < i then j else i)) M
  | [d] => (match lstOf M d with | some xs => (match intsOf xs with | some bs => 0 < bs.length ∧ ∀ m, m ∈ bs → (∀ y, y ∈ bs → m ≤ y) → k (.int m) M | none => False) | none => False)
  | _ => False
theorem cd_min (hc : X.calm = true) : CallD W X (.builtin "min") rMinD := by
  intro pins s σ H xs us Q I r ⟨F, M, k, ds, R, rs, h, g⟩
  unfold rMinD at h
  split at h
  · obtain ⟨v, _, rfl, r1, v2, _, rfl, r2, rfl⟩ := rs
    cases r1; cases r2
    exact call_min2 hc pins s σ H _ us Q I r ⟨_, _, rfl, g _ _ h _ F H R rfl⟩
  · split at h
    · rename_i d ds' es
      split at h
      · rename_i bs eb
        obtain ⟨v, _, rfl, r1, rfl⟩ := rs
        obtain ⟨a, xs, rfl, t, q⟩ := lstOf_at R es r1
        exact cr_min hc pins s σ H _ us Q I r ⟨a, bs, rfl, SqL.of (by rw [q, intsOf_at eb t]), h.1, fun m h1 h2 => g _ _ (h.2 m h1 h2) _ F H R rfl⟩
      · exact h.elim
    · exact h.elim
  · exact h.elim
/-! ### int, bool, str -/
def rInt : RnD := fun ds M k => match ds with
  | [.int i] => k (.int i) M
  | [.bl b] => k (.int (if b then 1 else 0)) M
  | _ => False
theorem cd_int : CallD W X (.type "int") rInt := by
  intro pins s σ H xs us Q I r ⟨F, M, k, ds, R, rs, h, g⟩
  unfold rInt at h
  split at h
  · obtain ⟨v, _, rfl, r1, rfl⟩ := rs
    cases r1
    exact call_int1 pins s σ H _ us Q I r (.inl ⟨_, rfl, g _ _ h _ F H R rfl⟩)
  · obtain ⟨v, _, rfl, r1, rfl⟩ := rs
    cases r1
    exact call_int1 pins s σ H _ us Q I r (.inr ⟨_, rfl, g _ _ h _ F H R rfl⟩)
  · exact h.elim
def rBool : RnD := fun ds M k => match ds with
  | [.int i] => k (.bl (i != 0)) M
  | [.bl b] => k (.bl b) M
  | _ => False
theorem cd_bool : CallD W X (.type "bool") rBool := by
  intro pins s σ H xs us Q I r ⟨F, M, k, ds, R, rs, h, g⟩
  unfold rBool at h
  split at h
  · obtain ⟨v, _, rfl, r1, rfl⟩ := rs
    cases r1
    exact call_bool1 pins s σ H _ us Q I r (.inl ⟨_, rfl, g _ _ h _ F H R rfl⟩)
  · obtain ⟨v, _, rfl, r1, rfl⟩ := rs
    cases r1
    exact call_bool1 pins s σ H _ us Q I r (.inr ⟨_, rfl, g _ _ h _ F H R rfl⟩)
  · exact h.elim
def rStrD : RnD := fun ds M k => match ds with
  | [.int i] => i.natAbs.log2 < 1920 ∧ k (.str (toString i)) M
  | [.bl b] => k (.str (if b then "True" else "False")) M
  | _ => False
theorem cd_str : CallD W X (.type "str") rStrD := by
  intro pins s σ H xs us Q I r ⟨F, M, k, ds, R, rs, h, g⟩
  unfold rStrD at h
  split at h
  · obtain ⟨v, _, rfl, r1, rfl⟩ := rs
    cases r1
    exact call_str_int pins s σ H _ us Q I r ⟨_, rfl, h.1, g _ _ h.2 _ F H R rfl⟩
  · obtain ⟨v, _, rfl, r1, rfl⟩ := rs
    cases r1
    obtain ⟨u, rfl, rx⟩ := vals1 r
    cases rx
    exact PySem.P.str_of_bool ⟨.str _, H, I.tok _, ⟨_, rfl⟩, g _ _ h _ F H R rfl⟩
  · exact h.elim
/-! ### tuple, list, sorted, set -/
def rTupleOf : RnD := fun ds M k => match ds with
  | [d] => (match seqOf M d with | some xs => k (.tup xs) M | none => False)
  | _ => False
theorem cd_tuple : CallD W X (.type "tuple") rTupleOf := by
  intro pins s σ H xs us Q I r ⟨F, M, k, ds, R, rs, h, g⟩
  unfold rTupleOf at h
  split at h
  · rename_i d
    split at h
    · rename_i ds' es
      obtain ⟨v, _, rfl, r1, rfl⟩ := rs
      have key : ∀ a xs, v = .ref a → Rds F ds' xs → H a = some (.lst xs) → wpAny (model X.prog X.w) X.A (call (.type "tuple") us) (EP X pins σ Q) X.xe s := fun a xs ev t q => by
        subst ev
        exact call_tuple_of pins s σ H _ us Q I r ⟨a, xs, rfl, .inl ⟨SqL.of q, fun p np => g _ _ h _ _ _ (R.newF np) ⟨p, _, rfl, upd_same, t.le (Le.new (R.fresh np).2)⟩⟩⟩
      cases d with
      | tup ds2 =>
        cases es
        obtain ⟨a, xs, rfl, q, t⟩ := r1
        exact call_tuple_of pins s σ H _ us Q I r ⟨a, xs, rfl, .inr ⟨SqT.of (R.le _ _ q), g _ _ h _ F H R ⟨a, xs, rfl, q, t⟩⟩⟩
      | lst ds2 =>
        cases es
        obtain ⟨a, xs, e, q, t⟩ := r1
        exact key a xs e t (R.le _ _ q)
      | ref a =>
        obtain ⟨a', xs, e, t, q⟩ := lstOf_at R (d := .ref a) (ds := ds') es r1
        exact key a' xs e t q
      | _ => cases es
    · exact h.elim
  · exact h.elim
def rListOf : RnD := fun ds M k => match ds with
  | [d] => (match seqOf M d with | some xs => k (.lst xs) M | none => False)
  | _ => False
/-- a new list that may change -/
def rListOfM : RnD := fun ds M k => match ds with
  | [d] => (match seqOf M d with | some xs => ∀ p, M p = none → k (.ref p) (updM M p (.lst xs)) | none => False)
  | _ => False
theorem cd_list : CallD W X (.type "list") rListOf := by
  intro pins s σ H xs us Q I r ⟨F, M, k, ds, R, rs, h, g⟩
  unfold rListOf at h
  split at h
  · split at h
    · rename_i d ds' es
      obtain ⟨v, _, rfl, r1, rfl⟩ := rs
      obtain ⟨a, xs, rfl, t, q⟩ := seqOf_at (K := X.K) R es r1
      exact call_list_of pins s σ H _ us Q I r ⟨a, xs, rfl, q.imp SqL.of SqT.of, fun p np => g _ _ h _ _ _ (R.newF np) ⟨p, _, rfl, upd_same, t.le (Le.new (R.fresh np).2)⟩⟩
    · exact h.elim
  · exact h.elim
theorem cd_listM : CallD W X (.type "list") rListOfM := by
  intro pins s σ H xs us Q I r ⟨F, M, k, ds, R, rs, h, g⟩
  unfold rListOfM at h
  split at h
  · split at h
    · rename_i d ds' es
      obtain ⟨v, _, rfl, r1, rfl⟩ := rs
      obtain ⟨a, xs, rfl, t, q⟩ := seqOf_at (K := X.K) R es r1
      exact call_list_of pins s σ H _ us Q I r ⟨a, xs, rfl, q.imp SqL.of SqT.of, fun p np => g _ _ (h p (R.fresh np).1) _ _ _ (R.newM np ⟨xs, upd_same, t⟩) rfl⟩
    · exact h.elim
  · exact h.elim
/-- sorted of ints: the list, or the keys of a dict (fewer than 64) -/
def intKeys : List Key → Option (List Int)
  | [] => some []
  | .inl i :: r => (intKeys r).map (i :: ·)
  | _ => none
theorem intKeys_eq : ∀ {ks : List Key} {is : List Int}, intKeys ks = some is → ks = is.map Sum.inl
  | [], _, h => by cases h; rfl
  | .inl i :: ks, is, h => by
    unfold intKeys at h
    cases e : intKeys ks with
    | none => rw [e] at h; cases h
    | some js => rw [e] at h; cases h; rw [intKeys_eq e]; rfl
theorem intKeys_map (is : List Int) : intKeys (is.map Sum.inl) = some is := by
  induction is with
  | nil => rfl
  | cons b bs ih => simp [intKeys, ih]
def rSortedD : RnD := fun ds M k => match ds with
  | [.ref a] => (match M a with
    | some (.lst xs) => (match intsOf xs with | some bs => ∀ ns : List Int, ns.Perm bs → ns.Pairwise (· ≤ ·) → k (.lst (ns.map D.int)) M | none => False)
    | some (.dic kvs) => (match intKeys (kvs.map (·.1)) with | some bs => bs.length < 64 ∧ ∀ ns : List Int, ns.Perm bs → ns.Pairwise (· ≤ ·) → k (.lst (ns.map D.int)) M | none => False)
    | _ => False)
  | [.lst xs] => (match intsOf xs with | some bs => ∀ ns : List Int, ns.Perm bs → ns.Pairwise (· ≤ ·) → k (.lst (ns.map D.int)) M | none => False)
  | _ => False
theorem rds_zip {F : Hp} {ks : List Key} {xs : List V} {kvs : List (Key × D)} (hk : ks = kvs.map (·.1)) (r : Rds F (kvs.map (·.2)) xs) : (ks.zip xs).map (·.1) = ks := by
  subst hk
  have := r.length
  rw [List.map_fst_zip]
  simp at this ⊢
  omega
theorem cd_sorted (hc : X.calm = true) : CallD W X (.builtin "sorted") rSortedD := by
  intro pins s σ H xs us Q I r ⟨F, M, k, ds, R, rs, h, g⟩
  unfold rSortedD at h
  split at h
  · rename_i a
    obtain ⟨v, _, rfl, r1, rfl⟩ := rs
    cases r1
    split at h
    · rename_i xs em
      split at h
      · rename_i bs eb
        obtain ⟨xv, q, t⟩ := (R.mo a _ em).2
        refine cr_sortedI pins s σ H _ us Q I r ⟨a, bs, rfl, SqL.of (by rw [q, intsOf_at eb t]), fun ns p h1 h2 np => ?_⟩
        exact g _ _ (h ns h1 h2) _ _ _ (R.newF np) ⟨p, _, rfl, upd_same, Rds.ints ns⟩
      · exact h.elim
    · rename_i kvs em
      split at h
      · rename_i bs eb
        obtain ⟨xv, q, t⟩ := (R.mo a _ em).2
        have hz := rds_zip rfl t
        refine call_sortedDI hc pins s σ H _ us Q I r ⟨a, _, bs, rfl, .inl q, by rw [hz]; exact intKeys_eq eb, h.1, fun ns p h1 h2 np => ?_⟩
        exact g _ _ (h.2 ns h1 h2) _ _ _ (R.newF np) ⟨p, _, rfl, upd_same, Rds.ints ns⟩
      · exact h.elim
    · exact h.elim
  · rename_i xs
    split at h
    · rename_i bs eb
      obtain ⟨v, _, rfl, ⟨a, xv, rfl, q, t⟩, rfl⟩ := rs
      refine cr_sortedI pins s σ H _ us Q I r ⟨a, bs, rfl, SqL.of (by rw [R.le _ _ q, intsOf_at eb t]), fun ns p h1 h2 np => ?_⟩
      exact g _ _ (h ns h1 h2) _ _ _ (R.newF np) ⟨p, _, rfl, upd_same, Rds.ints ns⟩
    · exact h.elim
  · exact h.elim
end
end DL
set_option maxHeartbeats 2000000
namespace DL
open PySem PySem.Spec L2
/-! ### repr -/
def keyP : Key → PyData
  | .inl i => .int i
  | .inr x => .str x
mutual
def toP : D → PyData
  | .non => .none
  | .bl b => .bool b
  | .int i => .int i
  | .str x => .str x
  | .tup ds => .tuple (toPs ds)
  | .lst ds => .list (toPs ds)
  | .dic ks ds => .dict ((ks.map keyP).zip (toPs ds))
  | .ref _ => .none
  | .ty _ => .none
def toPs : List D → List PyData
  | [] => []
  | d :: ds => toP d :: toPs ds
end
mutual
/-- nothing but data in it -/
def okP : D → Bool
  | .ref _ => false
  | .ty _ => false
  | .tup ds => okPs ds
  | .lst ds => okPs ds
  | .dic ks ds => (ks.length == ds.length) && okPs ds
  | _ => true
def okPs : List D → Bool
  | [] => true
  | d :: ds => okP d && okPs ds
end
mutual
/-- no list in it -/
def noL : D → Bool
  | .tup ds => noLs ds
  | .lst _ => false
  | .dic _ ds => noLs ds
  | _ => true
def noLs : List D → Bool
  | [] => true
  | d :: ds => noL d && noLs ds
end
theorem toPs_length : ∀ ds : List D, (toPs ds).length = ds.length
  | [] => rfl
  | _ :: ds => by simp [toPs, toPs_length ds]
section
variable {X : Cx} {pins : List (Addr × Obj)} {σ : L2.St} {H F : Hp} {s : Shared}
theorem keys_read {h : Heap} {prog : Program} {w : World} : ∀ {es : List DictEntry} {kvs : List (Key × Value)}, Pairs (mixKind prog w) es kvs → ReadsAll h (es.map (·.key)) ((kvs.map (·.1)).map keyP) []
  | _, _, .nil => .nil
  | _, _, .cons (e := e) (kv := kv) h1 _ t => by
    have h0 : Reads h e.key (keyP kv.1) [] := by
      rcases keyIs_shape h1 with ⟨i, t, ek, ev⟩ | ⟨x, t, ek, ev⟩
      · rw [ek, ev]; exact Reads.int i t
      · rw [ek, ev]; exact Reads.str x t
    exact ReadsAll.cons (bs := []) h0 (keys_read t)
theorem vals_eq {prog : Program} {w : World} : ∀ {es : List DictEntry} {kvs : List (Key × Value)}, Pairs (mixKind prog w) es kvs → es.map (·.val) = kvs.map (·.2)
  | _, _, .nil => rfl
  | _, _, .cons _ h2 t => by simp [h2, vals_eq t]
theorem kv_keys : ∀ {kvs : List (Key × V)} {vs : List (Key × Value)}, KV kvs vs → vs.map (·.1) = kvs.map (·.1) ∧ Vals (kvs.map (·.2)) (vs.map (·.2))
  | _, _, .nil => ⟨rfl, .nil⟩
  | _, _, .cons h t => by
    obtain ⟨e1, e2⟩ := kv_keys t
    refine ⟨by simp [h.1, e1], .cons h.2 e2⟩
mutual
theorem reads_of (I : Inv X pins σ H s) (le : Le F H) : ∀ (d : D) (v : V) (u : Value), okP d = true → Rdd F d v → RelV v u → ∃ as, Reads s.heap u (toP d) as ∧ (noL d = true → sysModules ∉ as)
  | .non, _, _, _, h, r => by cases h; cases r; exact ⟨_, Reads.none, fun _ => by simp⟩
  | .bl b, _, _, _, h, r => by cases h; cases r; exact ⟨_, Reads.bool b, fun _ => by simp⟩
  | .int i, _, _, _, h, r => by cases h; obtain ⟨t, rfl⟩ := r; exact ⟨_, Reads.int i t, fun _ => by simp⟩
  | .str x, _, _, _, h, r => by cases h; obtain ⟨t, rfl⟩ := r; exact ⟨_, Reads.str x t, fun _ => by simp⟩
  | .tup ds, _, _, ok, ⟨a, xs, e, q, t⟩, r => by
    subst e; cases r
    obtain ⟨its, rv, ⟨o, ho, hc, n, hd⟩, _⟩ := I.tuple (SqT.of (le _ _ q))
    obtain ⟨as, hr, hn⟩ := reads_all I le ds xs its ok t rv
    exact ⟨_, Reads.tuple ho hc hd hr, hn⟩
  | .lst ds, _, _, ok, ⟨a, xs, e, q, t⟩, r => by
    subst e; cases r
    obtain ⟨its, rv, ⟨o, n, ho, hc, _, hd⟩, _⟩ := I.list (SqL.of (le _ _ q))
    obtain ⟨as, hr, hn⟩ := reads_all I le ds xs its ok t rv
    exact ⟨_, Reads.list ho hc hd hr, fun z => by cases z⟩
  | .dic ks ds, _, _, ok, ⟨a, xs, ob, e, q, hl, t⟩, r => by
    subst e; cases r
    have ok' : (ks.length == ds.length && okPs ds) = true := ok
    rw [Bool.and_eq_true] at ok'
    obtain ⟨hz, hsm, vs, rel, o, es, ep, ho, hex, hd, hk, hp, hnd⟩ := dk_rd I.hok (.inr ⟨ob, le _ _ q⟩)
    obtain ⟨e1, e2⟩ := kv_keys rel
    rw [List.map_snd_zip (by omega)] at e2
    rw [List.map_fst_zip (by omega)] at e1
    obtain ⟨as, hr, hn⟩ := reads_all I le ds xs (vs.map (·.2)) ok'.2 t e2
    have h1 := keys_read (h := s.heap) hp
    rw [e1] at h1
    have l1 : (ks.map keyP).length = (toPs ds).length := by rw [List.length_map, toPs_length, t.length, hl]
    refine ⟨_, Reads.dict ho hex.1 hd (as := []) (bs := as) ?_ ?_, fun z => ?_⟩
    · rw [List.map_fst_zip (by omega)]; exact h1
    · rw [List.map_snd_zip (by omega), vals_eq hp]; exact hr
    · have := hn z
      simp only [List.append_nil, List.cons_append, List.mem_cons, not_or, List.nil_append]
      exact ⟨fun e => by rw [e] at hsm; simp at hsm, this⟩
  | .ref _, _, _, ok, _, _ => by cases ok
  | .ty _, _, _, ok, _, _ => by cases ok
theorem reads_all (I : Inv X pins σ H s) (le : Le F H) : ∀ (ds : List D) (vs : List V) (us : List Value), okPs ds = true → Rds F ds vs → Vals vs us → ∃ as, ReadsAll s.heap us (toPs ds) as ∧ (noLs ds = true → sysModules ∉ as)
  | [], _, _, _, h, r => by cases h; cases r; exact ⟨_, ReadsAll.nil, fun _ => by simp⟩
  | d :: ds, _, _, ok, ⟨x, rr, e, q, t⟩, r => by
    subst e
    have ok' : (okP d && okPs ds) = true := ok
    rw [Bool.and_eq_true] at ok'
    cases r with
    | cons r1 r2 =>
      obtain ⟨as, q1, n1⟩ := reads_of I le d _ _ ok'.1 q r1
      obtain ⟨bs, q2, n2⟩ := reads_all I le ds _ _ ok'.2 t r2
      refine ⟨_, ReadsAll.cons q1 q2, fun z => ?_⟩
      have z' : (noL d && noLs ds) = true := z
      rw [Bool.and_eq_true] at z'
      simp only [List.mem_append, not_or]
      exact ⟨n1 z'.1, n2 z'.2⟩
end
end
/-- the text of a value -/
def shown (d : D) : Str := (toP d).shown
structure RpOk (d : D) : Prop where
  ok : okP d = true
  sh : (toP d).showable = true
  nl : (toP d).hasDict = true → noL d = true
  sz : (shown d).length ≤ sizeLine
  dp : (toP d).depth ≤ 50
def rRepr : RnD := fun ds M k => match ds with
  | [d] => RpOk d ∧ k (.str (shown d)) M
  | _ => False
section
variable {W : Wd} {X : Cx}
theorem cd_repr (hg : X.A.guards = some []) (hu : X.A.units + 64 < cLine) : CallD W X (.builtin "repr") rRepr := by
  intro pins s σ H xs us Q I r ⟨F, M, k, ds, R, rs, h, g⟩
  unfold rRepr at h
  split at h
  · rename_i d
    obtain ⟨v, _, rfl, r1, rfl⟩ := rs
    obtain ⟨u, rfl, rx⟩ := vals1 r
    obtain ⟨⟨ok, sh, nl, sz, dp⟩, h⟩ := h
    obtain ⟨as, hr, hn⟩ := reads_of I R.le d v u ok r1 rx
    have fin : ∀ h' u' tk, (∀ b o, s.heap.get? b = some o → h'.get? b = some o) → EP X pins σ Q (.str (shown d) u') { s with heap := h', toks := tk } := fun h' u' tk hk =>
      ⟨.str (shown d), H, I.kept hk, ⟨u', rfl⟩, g _ _ h _ F H R rfl⟩
    cases d with
    | non => cases r1; cases rx; exact PySem.P.repr_of_none (fin s.heap _ _ fun _ _ e => e)
    | bl b => cases r1; cases rx; exact PySem.P.repr_of_bool (fin s.heap _ _ fun _ _ e => e)
    | int i =>
      cases r1; obtain ⟨t, rfl⟩ := rx
      have sh' : i.natAbs.log2 < 1920 := by simpa [toP, PyData.showable] using sh
      exact PySem.P.repr_of_int sh' (fin s.heap _ _ fun _ _ e => e)
    | str x => cases r1; obtain ⟨t, rfl⟩ := rx; exact PySem.P.repr_of_str (fin s.heap _ _ fun _ _ e => e) sz
    | tup ds =>
      obtain ⟨a, xs, rfl, _, _⟩ := r1
      cases rx
      exact repr_of_reads' hr sh (fun z => hn (nl z)) hg (by omega) (fun _ _ e => e) fin sz
    | lst ds =>
      obtain ⟨a, xs, rfl, _, _⟩ := r1
      cases rx
      exact repr_of_reads' hr sh (fun z => hn (nl z)) hg (by omega) (fun _ _ e => e) fin sz
    | dic ks ds =>
      obtain ⟨a, xs, _, rfl, _, _⟩ := r1
      cases rx
      exact repr_of_reads' hr sh (fun z => hn (nl z)) hg (by omega) (fun _ _ e => e) fin sz
    | ref _ => cases ok
    | ty _ => cases ok
  · exact h.elim
end
end DL
set_option maxHeartbeats 2000000
namespace DL
open PySem PySem.Spec L2
section
variable {W : Wd} {F0 : Hp} {X : Cx} {pos : Pos} {a b c e i o : Expr} {ta tb tc te td ty tx tv : TED}
/-! ### o[i] of lists, tuples -/
theorem tOp_imp {r : R2D} {rv : R2} (hi : ∀ x y H Q, LR2 W r x y H Q → rv x y H Q) {σ : L2.St} {H : Hp} {Q : VK} (h : LE W F0 (dOp r ta tb) σ H Q) : tOp rv (LE W F0 ta) (LE W F0 tb) σ H Q :=
  let ⟨δ, F, M, k, hs, R, h, g⟩ := h
  ⟨δ, F, M, _, hs, R, h, fun d M1 h1 v F1 H1 R1 r1 => ⟨δ, F1, M1, _, hs.le R1.base, R1.rebase R.base, h1, fun d2 M2 h2 v2 F2 H2 R2 r2 =>
    hi _ _ _ _ ⟨F2, M2, k, d, d2, R2.here, r1.le R2.base, r2, h2, fun d3 M3 h3 v3 F3 H3 R3 r3 => g _ _ h3 _ _ _ (R3.rebase (R1.base.trans R2.base)) r3⟩⟩⟩
theorem atI_rds {F : Hp} {ds : List D} {xs : List V} {j : Int} {d : D} (r : Rds F ds xs) (h : atI ds j = some d) : ∃ v, atI xs j = some v ∧ Rdd F d v := by
  unfold atI at h ⊢
  rw [← r.length]
  cases e : ixN ds.length j with
  | none => rw [e] at h; cases h
  | some n =>
    rw [e] at h
    simp only [Option.bind_some] at h ⊢
    exact r.get h
def rIx : R2D := fun x y M k => match y with
  | .int j => (match seqOf M x with | some ds => (match atI ds j with | some d => k d M | none => False) | none => False)
  | _ => False
theorem pd_ix (ha : PED W F0 X a ta) (hb : PED W F0 X b tb) (hs : PlainIx b := by intro _ _; rfl) : PED W F0 X (.Subscript a b pos) (dOp rIx ta tb) :=
  PE.wk (pe_ix (IxR.or ix_list ix_tup) ha hb hs) fun σ H Q h => tOp_imp (fun x y H Q ⟨F, M, k, d, e, R, rd, re, h, g⟩ => by
    unfold rIx at h
    split at h
    · rename_i j
      cases re
      split at h
      · rename_i ds es
        split at h
        · rename_i d' ed
          obtain ⟨p, xs, rfl, t, q⟩ := seqOf_at (K := X.K) R es rd
          obtain ⟨v, ev, rv⟩ := atI_rds t ed
          rcases q with q | q
          · exact .inl ⟨p, xs, j, v, rfl, rfl, SqL.of q, ev, g _ _ h _ F H R rv⟩
          · exact .inr ⟨p, xs, j, v, rfl, rfl, SqT.of q, ev, g _ _ h _ F H R rv⟩
        · exact h.elim
      · exact h.elim
    · exact h.elim) h
/-! ### slices -/
abbrev TOD := Sl → Sto → (Option Int → Sto → Prop) → Prop
def LO (W : Wd) (F0 : Hp) (t : TOD) : TO := fun σ H Q => ∃ (δ : Sl) (F : Hp) (M : Sto) (k : Option Int → Sto → Prop), Stt F σ δ ∧ Rep W F0 F M H ∧ t δ M k ∧ ∀ o M', k o M' → ∀ F' H', Rep W F F' M' H' → Q o H'
def POD (W : Wd) (F0 : Hp) (X : Cx) (e : Option Expr) (t : TOD) : Prop := PO X e (LO W F0 t)
def dNoP : TOD := fun _ M k => k none M
def dPart (te : TED) : TOD := fun δ M k => te δ M fun d M1 => match d with | .int j => k (some j) M1 | _ => False
theorem PO.wk {e : Option Expr} {t t' : TO} (h : PO X e t) (i : ∀ σ H Q, t' σ H Q → t σ H Q) : PO X e t' := ⟨fun pins s σ H Q I q => h.run pins s σ H Q I (i _ _ _ q)⟩
theorem pod_none : POD W F0 X none dNoP := PO.wk po_none fun σ H Q ⟨δ, F, M, k, hs, R, h, g⟩ => g _ _ h _ _ R.here
theorem pod_some (h : PED W F0 X e te) : POD W F0 X (some e) (dPart te) := PO.wk (po_some h) fun σ H Q ⟨δ, F, M, k, hs, R, h, g⟩ => ⟨δ, F, M, _, hs, R, h, fun d M1 h1 v F1 H1 R1 r1 => by
  cases d with
  | int j => exact ⟨j, r1, g _ _ h1 _ _ R1⟩
  | _ => exact h1.elim⟩
def cutD (xs : List D) (lo hi : Option Int) : List D := (xs.drop (HT.sIx xs.length 0 lo)).take (HT.sIx xs.length xs.length hi - HT.sIx xs.length 0 lo)
theorem cut_rds {F : Hp} {ds : List D} {xs : List V} (lo hi : Option Int) (r : Rds F ds xs) : Rds F (cutD ds lo hi) (cutV xs lo hi) := by
  unfold cutD cutV
  rw [← r.length]
  exact (r.drop _).take _
def dSl (te : TED) (tl th : TOD) : TED := fun δ M k => te δ M fun x M1 => tl δ M1 fun lo M2 => th δ M2 fun hi M3 => match x with
  | .tup ds => k (.tup (cutD ds lo hi)) M3
  | .lst ds => k (.lst (cutD ds lo hi)) M3
  | .ref a => (match M3 a with | some (.lst ds) => k (.lst (cutD ds lo hi)) M3 | _ => False)
  | _ => False
theorem pd_sl {lo hi : Option Expr} {tl th : TOD} {p2 : Pos} (he : PED W F0 X e te) (hl : POD W F0 X lo tl) (hu : POD W F0 X hi th) : PED W F0 X (.Subscript e (.Slice lo hi none p2) pos) (dSl te tl th) :=
  PE.wk (pe_slice (SlR.or sl_tupA sl_list) he hl hu) fun σ H Q ⟨δ, F, M, k, hs, R, h, g⟩ => ⟨δ, F, M, _, hs, R, h, fun x M1 h1 v F1 H1 R1 r1 =>
    ⟨δ, F1, M1, _, hs.le R1.base, R1.rebase R.base, h1, fun lo M2 h2 F2 H2 R2 => ⟨δ, F2, M2, _, hs.le (R1.base.trans R2.base), R2.rebase (R.base.trans R1.base), h2, fun hi M3 h3 F3 H3 R3 => by
      have R3' := R3.rebase (R1.base.trans R2.base)
      have lst : ∀ a xs ds, v = .ref a → Rds F3 ds xs → H3 a = some (.lst xs) → k (.lst (cutD ds lo hi)) M3 → rSlL X.K v lo hi H3 Q := fun a xs ds ev t q hk => by
        subst ev
        exact ⟨a, xs, rfl, SqL.of q, fun p np => g _ _ hk _ _ _ (R3'.newF np) ⟨p, _, rfl, upd_same, (cut_rds lo hi t).le (Le.new (R3'.fresh np).2)⟩⟩
      cases x with
      | tup ds =>
        obtain ⟨a, xs, rfl, q, t⟩ := r1.le (R2.base.trans R3.base)
        refine .inl ⟨a, xs, rfl, SqT.of (R3.le _ _ q), fun ew => ?_, fun _ p np => ?_⟩
        · have ec : cutD ds lo hi = ds := by
            unfold cutD
            rw [t.length, ew.1, ew.2, List.drop_zero, Nat.sub_zero, ← t.length, List.take_length]
          have h3 : k (.tup (cutD ds lo hi)) M3 := h3
          rw [ec] at h3
          exact g _ _ h3 _ F3 H3 R3' ⟨a, xs, rfl, q, t⟩
        · exact g _ _ h3 _ _ _ (R3'.newF np) ⟨p, _, rfl, upd_same, (cut_rds lo hi t).le (Le.new (R3'.fresh np).2)⟩
      | lst ds =>
        obtain ⟨a, xs, ev, q, t⟩ := r1.le (R2.base.trans R3.base)
        exact .inr (lst a xs ds ev t (R3.le _ _ q) h3)
      | ref a =>
        have h3 : (match M3 a with | some (.lst ds) => k (.lst (cutD ds lo hi)) M3 | _ => False) := h3
        split at h3
        · rename_i ds em
          obtain ⟨xs, q, t⟩ := (R3.mo a _ em).2
          exact .inr (lst a xs ds r1 t q h3)
        · exact h3.elim
      | _ => exact h3.elim⟩⟩⟩
/-- xs[::-1] of a list -/
def dRevL (te : TED) : TED := fun δ M k => te δ M fun x M1 => match lstOf M1 x with | some ds => k (.lst ds.reverse) M1 | none => False
theorem pd_revL {k : Nat} {p1 p2 p3 : Pos} (he : PED W F0 X e te) : PED W F0 X (.Subscript e (.Slice none none (some (.UnaryOp .USub (.Constant (.int 1) k p1) p2)) p3) pos) (dRevL te) :=
  PE.wk (pe_revL he) fun σ H Q ⟨δ, F, M, k, hs, R, h, g⟩ => ⟨δ, F, M, _, hs, R, h, fun x M1 h1 v F1 H1 R1 r1 => by
    cases es : lstOf M1 x with
    | none => rw [es] at h1; exact h1.elim
    | some ds =>
      rw [es] at h1
      obtain ⟨a, xs, ev, t, q⟩ := lstOf_at R1 es r1
      exact ⟨a, xs, ev, SqL.of q, fun p np => g _ _ h1 _ _ _ (R1.newF np) ⟨p, _, rfl, upd_same, t.reverse.le (Le.new (R1.fresh np).2)⟩⟩⟩
/-! ### dicts whose keys are ints and texts -/
def keyD : D → Option Key
  | .int i => some (.inl i)
  | .str x => some (.inr x)
  | _ => none
theorem keyD_of {F : Hp} : ∀ {d : D} {k : Key} {v : V}, keyD d = some k → Rdd F d v → v = kV k
  | .int _, _, _, h, r => by cases h; exact r
  | .str _, _, _, h, r => by cases h; exact r
def lookD (kvs : List (Key × D)) (k : Key) : Option D := (kvs.find? fun kv => decide (kv.1 = k)).map (·.2)
def putD (kvs : List (Key × D)) (k : Key) (v : D) : List (Key × D) := if (kvs.any fun kv => decide (kv.1 = k)) = true then kvs.map (fun kv => if kv.1 = k then (kv.1, v) else kv) else kvs ++ [(k, v)]
def dropD (kvs : List (Key × D)) (k : Key) : List (Key × D) := kvs.filter fun kv => decide (kv.1 ≠ k)
def zipV (kvs : List (Key × D)) (xs : List V) : List (Key × V) := (kvs.map (·.1)).zip xs
theorem zip_look {F : Hp} {k : Key} : ∀ {kvs : List (Key × D)} {xs : List V}, Rds F (kvs.map (·.2)) xs → (match lookD kvs k with | some d => ∃ v, valV (zipV kvs xs) k = some v ∧ Rdd F d v | none => valV (zipV kvs xs) k = none)
  | [], xs, r => by simp [lookD, zipV, valV]
  | (k', d') :: r, xs, ⟨x, xr, e, q, t⟩ => by
    subst e
    have ih := zip_look (k := k) t
    have e0 : zipV ((k', d') :: r) (x :: xr) = (k', x) :: zipV r xr := rfl
    rw [e0]
    by_cases hk : k' = k
    · subst hk
      have e1 : lookD ((k', d') :: r) k' = some d' := by simp [lookD]
      rw [e1]
      exact ⟨x, valV_pos rfl, q⟩
    · have e1 : lookD ((k', d') :: r) k = lookD r k := by simp [lookD, List.find?_cons, hk]
      rw [e1, valV_neg hk]
      exact ih
theorem zip_any {kvs : List (Key × D)} {xs : List V} {F : Hp} {k : Key} (r : Rds F (kvs.map (·.2)) xs) : ((zipV kvs xs).any fun kv => decide (kv.1 = k)) = kvs.any fun kv => decide (kv.1 = k) := by
  have hz := rds_zip (F := F) (ks := kvs.map (·.1)) rfl r
  have e1 : ((zipV kvs xs).any fun kv => decide (kv.1 = k)) = ((zipV kvs xs).map (·.1)).any fun z => decide (z = k) := by rw [List.any_map]; rfl
  have e2 : (kvs.any fun kv => decide (kv.1 = k)) = (kvs.map (·.1)).any fun z => decide (z = k) := by rw [List.any_map]; rfl
  rw [e1, e2]
  unfold zipV
  rw [hz]
theorem zip_put {F : Hp} {k : Key} {d : D} {v : V} (rv : Rdd F d v) {kvs : List (Key × D)} {xs : List V} (r : Rds F (kvs.map (·.2)) xs) : ∃ ys, putK (zipV kvs xs) k v = zipV (putD kvs k d) ys ∧ Rds F ((putD kvs k d).map (·.2)) ys := by
  unfold putK putD
  rw [zip_any r]
  by_cases h : (kvs.any fun kv => decide (kv.1 = k)) = true
  · rw [if_pos h, if_pos h]
    clear h
    induction kvs generalizing xs with
    | nil => cases r; exact ⟨[], rfl, rfl⟩
    | cons p kvs ih =>
      obtain ⟨k', d'⟩ := p
      obtain ⟨x, xr, rfl, q, t⟩ := r
      obtain ⟨ys, e1, e2⟩ := ih t
      have e0 : zipV ((k', d') :: kvs) (x :: xr) = (k', x) :: zipV kvs xr := rfl
      rw [e0, List.map_cons, List.map_cons, e1]
      by_cases hk : k' = k
      · refine ⟨v :: ys, ?_, ?_⟩
        · simp [hk, zipV]
        · simp only [hk, if_true, List.map_cons]; exact .cons rv e2
      · refine ⟨x :: ys, ?_, ?_⟩
        · simp [hk, zipV]
        · simp only [hk, if_false, List.map_cons]; exact .cons q e2
  · rw [if_neg h, if_neg h]
    refine ⟨xs ++ [v], ?_, ?_⟩
    · unfold zipV
      rw [List.map_append, List.zip_append (by have := r.length; simpa using this)]
      rfl
    · rw [List.map_append]; exact r.append (.cons rv .nil)
theorem zip_len {F : Hp} {kvs : List (Key × D)} {xs : List V} (r : Rds F (kvs.map (·.2)) xs) : (zipV kvs xs).length = kvs.length := by
  unfold zipV
  have := r.length
  simp at this
  simp [← this]
theorem zip_drop {F : Hp} {k : Key} : ∀ {kvs : List (Key × D)} {xs : List V}, Rds F (kvs.map (·.2)) xs → ∃ ys, dropK (zipV kvs xs) k = zipV (dropD kvs k) ys ∧ Rds F ((dropD kvs k).map (·.2)) ys
  | [], xs, r => by cases r; exact ⟨[], rfl, rfl⟩
  | (k', d') :: kvs, xs, ⟨x, xr, e, q, t⟩ => by
    subst e
    obtain ⟨ys, e1, e2⟩ := zip_drop (k := k) t
    have e0 : zipV ((k', d') :: kvs) (x :: xr) = (k', x) :: zipV kvs xr := rfl
    rw [e0]
    by_cases hk : k' = k
    · refine ⟨ys, ?_, ?_⟩
      · simp only [dropK, dropD, List.filter_cons, hk] at e1 ⊢; simpa using e1
      · simp only [dropD, List.filter_cons, hk] at e2 ⊢; simpa using e2
    · refine ⟨x :: ys, ?_, ?_⟩
      · simp only [dropK, dropD, List.filter_cons, hk] at e1 ⊢
        simp only [ne_eq, hk, not_false_eq_true, decide_true, if_true, e1]
        rfl
      · simp only [dropD, List.filter_cons, hk] at e2 ⊢
        simp only [ne_eq, hk, not_false_eq_true, decide_true, if_true, List.map_cons]
        exact .cons q e2
/-- what the dict holds, changeable or locked -/
def dicOf (M : Sto) : D → Option (List (Key × D))
  | .ref a => (match M a with | some (.dic kvs) => some kvs | _ => none)
  | .dic ks ds => if ks.length = ds.length then some (ks.zip ds) else none
  | _ => none
theorem dicOf_at {F F0 : Hp} {M : Sto} {H : Hp} (R : Rep W F0 F M H) {d : D} {kvs : List (Key × D)} {v : V} (h : dicOf M d = some kvs) (r : Rdd F d v) : ∃ a xs, v = .ref a ∧ Rd H a (.dK (zipV kvs xs)) ∧ Rds F (kvs.map (·.2)) xs := by
  cases d with
  | ref a =>
    have h : (match M a with | some (.dic kvs) => some kvs | _ => none) = some kvs := h
    split at h
    · rename_i em; cases h
      obtain ⟨xs, q, t⟩ := (R.mo a _ em).2
      exact ⟨a, xs, r, .inl q, t⟩
    · cases h
  | dic ks ds =>
    have h : (if ks.length = ds.length then some (ks.zip ds) else none) = some kvs := h
    split at h
    · rename_i el
      cases h
      obtain ⟨a, xs, o, e, q, hl, t⟩ := r
      refine ⟨a, xs, e, .inr ⟨o, ?_⟩, ?_⟩
      · unfold zipV
        rw [List.map_fst_zip (by omega)]
        exact R.le _ _ q
      · rw [List.map_snd_zip (by omega)]; exact t
    · cases h
  | _ => cases h
theorem dget_of {F F0 : Hp} {M : Sto} {H : Hp} (R : Rep W F0 F M H) {d y : D} {kvs : List (Key × D)} {v u : V} {k : Key} (h : dicOf M d = some kvs) (r : Rdd F d v) (hk : keyD y = some k) (ry : Rdd F y u) :
    ∃ a xs, v = .ref a ∧ DGet H a u (valV (zipV kvs xs) k) ∧ Rds F (kvs.map (·.2)) xs ∧ IsD H a := by
  obtain ⟨a, xs, e, q, t⟩ := dicOf_at R h r
  exact ⟨a, xs, e, .inl ⟨_, k, q, keyD_of hk ry, rfl⟩, t, .inl ⟨_, q⟩⟩
def dDGet (td ty : TED) : TED := fun δ M k => td δ M fun x M1 => ty δ M1 fun y M2 => match dicOf M2 x, keyD y with
  | some kvs, some kk => (match lookD kvs kk with | some d => k d M2 | none => False)
  | _, _ => False
theorem pd_dget (hu : X.A.units + 1 < cLine) (ho : PED W F0 X o td) (hi : PED W F0 X i ty) (hs : NoSl i := by intro _ _; rfl) : PED W F0 X (.Subscript o i pos) (dDGet td ty) :=
  PE.wk (pe_dget hu ho hi hs) fun σ H Q ⟨δ, F, M, k, hs, R, h, g⟩ => ⟨δ, F, M, _, hs, R, h, fun x M1 h1 v F1 H1 R1 r1 => ⟨δ, F1, M1, _, hs.le R1.base, R1.rebase R.base, h1, fun y M2 h2 u F2 H2 R2 r2 => by
    split at h2
    · rename_i kvs kk e1 e2
      split at h2
      · rename_i d ed
        obtain ⟨a, xs, ev, dg, t, _⟩ := dget_of R2 e1 (r1.le R2.base) e2 r2
        have z := zip_look (k := kk) t
        rw [ed] at z
        obtain ⟨w, ew, rw'⟩ := z
        rw [ew] at dg
        exact ⟨a, w, ev, dg, g _ _ h2 _ _ _ (R2.rebase R1.base) rw'⟩
      · exact h2.elim
    · exact h2.elim⟩⟩
def dDGet2 (td ty tx : TED) : TED := fun δ M k => td δ M fun x M1 => (dicOf M1 x).isSome = true ∧ ty δ M1 fun y M2 => tx δ M2 fun z M3 => match dicOf M3 x, keyD y with
  | some kvs, some kk => k ((lookD kvs kk).getD z) M3
  | _, _ => False
theorem pd_dget2 {apos cpos : Pos} (hu : X.A.units + 1 < cLine) (ho : PED W F0 X o td) (he : PED W F0 X e ty) (hf : PED W F0 X b tx) (m : M2 X o "get" apos e b cpos := by exact ⟨rfl, rfl, rfl, rfl⟩) : PED W F0 X (.Call (.Attribute o "get" apos) [e, b] [] cpos) (dDGet2 td ty tx) :=
  PE.wk (pe_dget2 hu ho he hf m) fun σ H Q ⟨δ, F, M, k, hs, R, h, g⟩ => ⟨δ, F, M, _, hs, R, h, fun x M1 ⟨hd, h1⟩ v F1 H1 R1 r1 => by
    obtain ⟨kvs0, e0⟩ := Option.isSome_iff_exists.mp hd
    obtain ⟨a, xs0, ev, q0, _⟩ := dicOf_at R1 e0 r1
    refine ⟨a, ev, .inl ⟨_, q0⟩, δ, F1, M1, _, hs.le R1.base, R1.rebase R.base, h1, fun y M2 h2 u F2 H2 R2 r2 => ⟨δ, F2, M2, _, hs.le (R1.base.trans R2.base), R2.rebase (R.base.trans R1.base), h2, fun z M3 h3 w F3 H3 R3 r3 => ?_⟩⟩
    split at h3
    · rename_i kvs kk e1 e2
      obtain ⟨a', xs, ev', dg, t, _⟩ := dget_of R3 e1 (r1.le (R2.base.trans R3.base)) e2 (r2.le R3.base)
      rw [ev] at ev'; cases ev'
      refine ⟨_, dg, ?_⟩
      have zl := zip_look (k := kk) t
      cases ed : lookD kvs kk with
      | none =>
        rw [ed] at zl h3
        have zl : valV (zipV kvs xs) kk = none := zl
        rw [zl]
        exact g _ _ h3 _ _ _ (R3.rebase (R1.base.trans R2.base)) r3
      | some d =>
        rw [ed] at zl h3
        obtain ⟨w2, ew, rw'⟩ := zl
        rw [ew]
        exact g _ _ h3 _ _ _ (R3.rebase (R1.base.trans R2.base)) rw'
    · exact h3.elim⟩
/-- k in d -/
def rInDic (neg : Bool) (ty td : TED) : TED := fun δ M k => ty δ M fun y M1 => td δ M1 fun x M2 => match dicOf M2 x, keyD y with
  | some kvs, some kk => k (.bl (if neg then !(lookD kvs kk).isSome else (lookD kvs kk).isSome)) M2
  | _, _ => False
theorem in_of {neg : Bool} {σ : L2.St} {H : Hp} {Q : VK} (h : LE W F0 (rInDic neg ty td) σ H Q) : (if neg then tDNotIn (LE W F0 ty) (LE W F0 td) else tDIn (LE W F0 ty) (LE W F0 td)) σ H Q := by
  obtain ⟨δ, F, M, k, hs, R, h, g⟩ := h
  have key : ∀ (x y : D) (M2 : Sto) (F1 F2 : Hp) (H2 : Hp) (v u : V), Rep W F F1 M2 H2 → Rdd F1 y u → Rdd F1 x v → (match dicOf M2 x, keyD y with | some kvs, some kk => k (.bl (if neg then !(lookD kvs kk).isSome else (lookD kvs kk).isSome)) M2 | _, _ => False) →
      ∃ a o, v = .ref a ∧ DGet H2 a u o ∧ Q (.bl (if neg then !o.isSome else o.isSome)) H2 := fun x y M2 F1 F2 H2 v u R2 ry rx h2 => by
    split at h2
    · rename_i kvs kk e1 e2
      obtain ⟨a, xs, ev, dg, t, _⟩ := dget_of R2 e1 rx e2 ry
      refine ⟨a, _, ev, dg, ?_⟩
      have zl := zip_look (k := kk) t
      have e3 : (valV (zipV kvs xs) kk).isSome = (lookD kvs kk).isSome := by
        cases ed : lookD kvs kk with
        | none => rw [ed] at zl; have zl : valV (zipV kvs xs) kk = none := zl; rw [zl]; rfl
        | some d => rw [ed] at zl; obtain ⟨w, ew, _⟩ := zl; rw [ew]; rfl
      rw [e3]
      exact g _ _ h2 _ _ _ R2 rfl
    · exact h2.elim
  cases neg with
  | false =>
    exact ⟨δ, F, M, _, hs, R, h, fun y M1 h1 u F1 H1 R1 r1 => ⟨δ, F1, M1, _, hs.le R1.base, R1.rebase R.base, h1, fun x M2 h2 v F2 H2 R2 r2 => key x y M2 F2 F2 H2 v u (R2.rebase R1.base) (r1.le R2.base) r2 h2⟩⟩
  | true =>
    exact ⟨δ, F, M, _, hs, R, h, fun y M1 h1 u F1 H1 R1 r1 => ⟨δ, F1, M1, _, hs.le R1.base, R1.rebase R.base, h1, fun x M2 h2 v F2 H2 R2 r2 => key x y M2 F2 F2 H2 v u (R2.rebase R1.base) (r1.le R2.base) r2 h2⟩⟩
theorem pd_din (hu : X.A.units + 1 < cLine) (hi : PED W F0 X i ty) (ho : PED W F0 X o td) (h1 : behindInMarks .In o = false := by rfl) : PED W F0 X (.Compare i [.In] [o] pos) (rInDic false ty td) :=
  PE.wk (pe_cmp (pc_din hu hi ho) h1) fun σ H Q h => in_of h
theorem pd_dnotin (hu : X.A.units + 1 < cLine) (hi : PED W F0 X i ty) (ho : PED W F0 X o td) (h1 : behindInMarks .NotIn o = false := by rfl) : PED W F0 X (.Compare i [.NotIn] [o] pos) (rInDic true ty td) :=
  PE.wk (pe_cmp (pc_dnotin hu hi ho) h1) fun σ H Q h => in_of h
theorem ptd_din (hu : X.A.units + 1 < cLine) (hi : PED W F0 X i ty) (ho : PED W F0 X o td) (h1 : behindInMarks .In o = false := by rfl) : PTD W F0 X (.Compare i [.In] [o] pos) (dTst (rInDic false ty td)) :=
  PT.wk (pt_cmp (pc_din hu hi ho) h1) fun σ H Q ⟨δ, F, M, k, hs, R, h, g⟩ => in_of (neg := false) ⟨δ, F, M, _, hs, R, h, fun d M1 h1 v F1 H1 R1 r1 => by
    cases d with
    | bl b => exact ⟨b, r1, g b M1 h1 F1 H1 R1⟩
    | _ => exact h1.elim⟩
theorem ptd_dnotin (hu : X.A.units + 1 < cLine) (hi : PED W F0 X i ty) (ho : PED W F0 X o td) (h1 : behindInMarks .NotIn o = false := by rfl) : PTD W F0 X (.Compare i [.NotIn] [o] pos) (dTst (rInDic true ty td)) :=
  PT.wk (pt_cmp (pc_dnotin hu hi ho) h1) fun σ H Q ⟨δ, F, M, k, hs, R, h, g⟩ => in_of (neg := true) ⟨δ, F, M, _, hs, R, h, fun d M1 h1 v F1 H1 R1 r1 => by
    cases d with
    | bl b => exact ⟨b, r1, g b M1 h1 F1 H1 R1⟩
    | _ => exact h1.elim⟩
/-- d[k] = v -/
def dDPut (td ty tv : TED) : TSD := fun D δ M => tv δ M fun v M1 => td δ M1 fun x M2 => ty δ M2 fun y M3 => match x, keyD y with
  | .ref a, some kk => (match M3 a with | some (.dic kvs) => kvs.length < sizeLine ∧ D.nx δ (updM M3 a (.dic (putD kvs kk v))) | _ => False)
  | _, _ => False
theorem psd_dput {value : Expr} {pos' : Pos} (hu : X.A.units + 1 < cLine) (ho : PED W F0 X o td) (hi : PED W F0 X i ty) (hv : PED W F0 X value tv) (hs : swapsWith value (some (.Subscript o i pos')) pos.line X.env = pure false := by rfl) : PSD W F0 X (.Assign [.Subscript o i pos'] value pos) (dDPut td ty tv) :=
  PS.wk (ps_dput hu ho hi hv hs) fun D σ H ⟨δ, F, M, d, hst, R, h, gd⟩ => ⟨δ, F, M, _, hst, R, h, fun v M1 h1 vv F1 H1 R1 r1 => ⟨δ, F1, M1, _, hst.le R1.base, R1.rebase R.base, h1, fun x M2 h2 xv F2 H2 R2 r2 => ⟨δ, F2, M2, _, hst.le (R1.base.trans R2.base), R2.rebase (R.base.trans R1.base), h2, fun y M3 h3 yv F3 H3 R3 r3 => by
    split at h3
    · rename_i a kk ek
      split at h3
      · rename_i kvs em
        obtain ⟨hz, h3⟩ := h3
        obtain ⟨xs, q, t⟩ := (R3.mo a _ em).2
        have hy := keyD_of ek r3
        subst hy
        have rv3 : Rdd F3 v vv := r1.le (R2.base.trans R3.base)
        obtain ⟨ys, e1, e2⟩ := zip_put (k := kk) rv3 t
        refine ⟨a, _, r2, DPut.k q (by have := zip_len t; unfold zipV at this; rw [this]; exact hz), ?_⟩
        have Rw := (R3.rebase (R1.base.trans R2.base)).write (m' := .dic (putD kvs kk v)) (o := .dK (putK ((kvs.map (·.1)).zip xs) kk vv)) em (fun _ z => by cases z) (fun _ z => by cases z) (by rw [q]; trivial) ⟨ys, by rw [upd_same]; exact congrArg _ (congrArg _ e1), e2⟩
        exact gd.nx _ _ h3 _ _ _ Rw (hst.le (R1.base.trans (R2.base.trans R3.base)))
      · exact h3.elim
    · exact h3.elim⟩⟩⟩
/-- del d[k] -/
def dDDel (td ty : TED) : TSD := fun D δ M => td δ M fun x M1 => ty δ M1 fun y M2 => match x, keyD y with
  | .ref a, some kk => (match M2 a with | some (.dic kvs) => (lookD kvs kk).isSome = true ∧ D.nx δ (updM M2 a (.dic (dropD kvs kk))) | _ => False)
  | _, _ => False
theorem psd_ddel {tpos : Pos} (ho : PED W F0 X o td) (hi : PED W F0 X i ty) : PSD W F0 X (.Delete [.Subscript o i tpos] pos) (dDDel td ty) :=
  PS.wk (ps_ddel ho hi) fun D σ H ⟨δ, F, M, d, hst, R, h, gd⟩ => ⟨δ, F, M, _, hst, R, h, fun x M1 h1 xv F1 H1 R1 r1 => ⟨δ, F1, M1, _, hst.le R1.base, R1.rebase R.base, h1, fun y M2 h2 yv F2 H2 R2 r2 => by
    split at h2
    · rename_i a kk ek
      split at h2
      · rename_i kvs em
        obtain ⟨hz, h2⟩ := h2
        obtain ⟨xs, q, t⟩ := (R2.mo a _ em).2
        have hy := keyD_of ek r2
        subst hy
        obtain ⟨ys, e1, e2⟩ := zip_drop (k := kk) t
        have zl := zip_look (k := kk) t
        obtain ⟨d0, ed⟩ := Option.isSome_iff_exists.mp hz
        rw [ed] at zl
        obtain ⟨w, ew, _⟩ := zl
        refine ⟨a, _, kk, r1, q, rfl, by unfold zipV at ew; rw [ew]; rfl, ?_⟩
        have Rw := (R2.rebase R1.base).write (m' := .dic (dropD kvs kk)) (o := .dK (dropK ((kvs.map (·.1)).zip xs) kk)) em (fun _ z => by cases z) (fun _ z => by cases z) (by rw [q]; trivial) ⟨ys, by rw [upd_same]; exact congrArg _ (congrArg _ e1), e2⟩
        exact gd.nx _ _ h2 _ _ _ Rw (hst.le (R1.base.trans R2.base))
      · exact h2.elim
    · exact h2.elim⟩⟩
/-- {} -/
def dDNew : TED := fun _ M k => ∀ p, M p = none → k (.ref p) (updM M p (.dic []))
theorem pd_dnew : PED W F0 X (.Dict [] [] pos) dDNew := PE.wk pe_dnewK fun σ H Q ⟨δ, F, M, k, hs, R, h, g⟩ p np =>
  g _ _ (h p (R.fresh np).1) _ _ _ (R.here.newM np ⟨[], upd_same, rfl⟩) rfl
/-- what an expression gives is locked for good -/
theorem pe_locked {X : Cx} {e : Expr} {t : TE} (h : PE X e t) : PE X e (fun σ H Q => t σ H fun v H' => ∃ d u, H' d = some u ∧ Mut (some u) ∧ ∀ od, Q v (upd H' d (.frz od u))) := ⟨fun pins s σ H Q I hw =>
  thn (h.run pins s σ H _ I hw) fun v s1 ⟨x, H1, I1, r1, d, u, hd, mu, q⟩ => by
    obtain ⟨od, I2⟩ := I1.lock hd mu
    exact ⟨x, _, I2, r1, q od⟩⟩
theorem upd_twice {H : Hp} {a : Addr} {o u : HO} : upd (upd H a o) a u = upd H a u := upd_upd
/-- {} that is never changed -/
def dDNewF : TED := fun _ M k => k (.dic [] []) M
theorem pd_dnewF : PED W F0 X (.Dict [] [] pos) dDNewF := PE.wk (pe_locked pe_dnewK) fun σ H Q ⟨δ, F, M, k, hs, R, h, g⟩ p np =>
  ⟨p, .dK [], upd_same, trivial, fun od => by
    rw [upd_upd]
    exact g _ _ h _ _ _ (R.here.newF np) ⟨p, [], od, rfl, upd_same, rfl, rfl⟩⟩
/-- {k: v, ..} of written keys, never changed -/
def dPairs : List (Key × TED) → TAD
  | [] => fun _ M k => k [] M
  | (_, t) :: r => fun δ M k => t δ M fun d M1 => dPairs r δ M1 fun ds M2 => k (d :: ds) M2
def dDispF (ps : List (Key × TED)) : TED := fun δ M k => dPairs ps δ M fun ds M1 => (ps.map (·.1)).Nodup ∧ ps.length ≤ 15 ∧ k (.dic (ps.map (·.1)) ds) M1
/-! ### xs.append(e), xs.pop() -/
def appK (k : DKt) (x y : D) (M2 : Sto) : Prop := match x with
  | .ref a => (match M2 a with | some (.lst ds) => ds.length < sizeLine ∧ k .non (updM M2 a (.lst (ds ++ [y]))) | _ => False)
  | _ => False
def oneK (k : DKt) : List D → Sto → Prop := fun ds M => match ds with | [y] => k y M | _ => False
def dAppend (to te : TED) : TED := fun δ M k => to δ M fun x M1 => (lstOf M1 x).isSome = true ∧ te δ M1 fun y M2 => appK k x y M2
theorem pd_append {apos cpos : Pos} (ho : PED W F0 X o td) (he : PED W F0 X e te) (hbase : attributeBase o "append" X.env (eval o X.env) = eval o X.env := by rfl)
    (hfew : ((backTo cpos (starEach (e :: []) X.env)).all (fun x => !x.1) && (backToKw cpos (keywordEach [] X.env)).all (fun x => x.1.isSome)
      && decide ((e :: []).length + ([] : List Keyword).length + (if ([] : List Keyword).isEmpty then 0 else 1) < 30)) = true := by rfl)
    (hline : (apos.endLine == cpos.line) = true := by rfl) (hs : starEach (e :: []) X.env = (false, eval e X.env) :: starEach [] X.env := by rfl) (hplain : (backTo cpos (starEach [] X.env)).any (·.1) = false := by rfl) :
    PED W F0 X (.Call (.Attribute o "append" apos) [e] [] cpos) (dAppend td te) :=
  PE.wk (pe_bm PySem.F.plainAttrs_list PySem.F.slot_list_append PySem.F.type_list_append mt_append ho (pda_cons he pda_nil hs) hbase hfew hline hs hplain) fun σ H Q ⟨δ, F, M, k, hst, R, h, g⟩ => ⟨δ, F, M, _, hst, R, h, fun x M1 ⟨hx, h1⟩ v F1 H1 R1 r1 => by
    obtain ⟨ds0, es⟩ := Option.isSome_iff_exists.mp hx
    obtain ⟨a0, xs0, ev, t0, q0⟩ := lstOf_at R1 es r1
    subst ev
    refine ⟨.inl ⟨rfl, _, SqL.of q0⟩, δ, F1, M1, oneK (appK k x), hst.le R1.base, R1.rebase R.base, h1, fun ds M2 h2 vs F2 H2 R2 r2 => ?_⟩
    unfold oneK at h2
    split at h2
    · rename_i y
      obtain ⟨yv, _, rfl, ry, rfl⟩ := r2
      unfold appK at h2
      split at h2
      · rename_i a
        cases r1
        split at h2
        · rename_i ds em
          obtain ⟨xs, q, t⟩ := (R2.mo a0 _ em).2
          refine ⟨a0, xs, yv, rfl, rfl, q, by rw [← t.length]; exact h2.1, ?_⟩
          have Rw := (R2.rebase R1.base).write (m' := .lst (ds ++ [y])) (o := .lst (xs ++ [yv])) em (fun _ z => by cases z) (fun _ z => by cases z) (by rw [q]; trivial) ⟨_, upd_same, t.append (.cons ry .nil)⟩
          exact g _ _ h2.2 _ _ _ Rw rfl
        · exact h2.elim
      · exact h2.elim
    · exact h2.elim⟩
end
end DL
set_option maxHeartbeats 2000000
namespace DL
open PySem PySem.Spec L2
section
variable {W : Wd} {F0 : Hp} {X : Cx} {pos : Pos} {a b c e i o : Expr} {st : Stmt} {ta tb tc te td ty tx tv : TED} {t : TAD} {ts : TSD} {tt : TTD}
/-! ### a dict that is never changed from here on -/
theorem freezeD {F0 F : Hp} {M : Sto} {H : Hp} {a : Addr} {kvs : List (Key × D)} {xs : List V} {od : Obj} (R : Rep W F0 F M H) (h : M a = some (.dic kvs)) (e : H a = some (.dK (zipV kvs xs))) (r : Rds F (kvs.map (·.2)) xs) :
    Rep W F0 (upd F a (.frz od (.dK (zipV kvs xs)))) (delM M a) (upd H a (.frz od (.dK (zipV kvs xs)))) ∧ Rdd (upd F a (.frz od (.dK (zipV kvs xs)))) (.dic (kvs.map (·.1)) (kvs.map (·.2))) (.ref a) := by
  have hF := (R.mo a _ h).1
  have hl := r.length
  simp at hl
  refine ⟨⟨R.base.trans (Le.new hF), fun b u q => ?_, fun b m q => ?_, fun p hp => ?_, fun b ps q => (by by_cases hb : b = a; (· subst hb; rw [upd_same] at q; cases q); (· rw [upd_ne hb] at q; exact R.nt b ps q)), fun p hp => ?_⟩, a, xs, od, rfl, upd_same, by simpa using hl, r.le (Le.new hF)⟩
  · by_cases hb : b = a
    · subst hb; rw [upd_same] at q ⊢; exact q
    · rw [upd_ne hb] at q ⊢; exact R.le b u q
  · unfold delM at q
    split at q
    · cases q
    · rename_i hb
      obtain ⟨h1, h2⟩ := R.mo b m q
      refine ⟨by rw [upd_ne hb]; exact h1, ?_⟩
      have h2 := h2.le (Le.new hF (o := .frz od (.dK (zipV kvs xs))))
      cases m with
      | lst ds => obtain ⟨ys, q1, q2⟩ := h2; exact ⟨ys, by rw [upd_ne hb]; exact q1, q2⟩
      | dic ds => obtain ⟨ys, q1, q2⟩ := h2; exact ⟨ys, by rw [upd_ne hb]; exact q1, q2⟩
      | deck ws =>
        obtain ⟨l, cells, c1, c2, xs, e1, e2, e3, e4, e5⟩ := h2
        have nl : l ≠ a := fun z => by rw [z, h] at e1; cases e1
        exact ⟨l, cells, c1, c2, xs, (if_neg nl).trans e1, by rw [upd_ne nl]; exact e2, e3, by rw [upd_ne hb]; exact e4, e5⟩
      | part => obtain ⟨u, q1⟩ := h2; exact ⟨u, by rw [upd_ne hb]; exact q1⟩
  · obtain ⟨ps, h1, h2, h3⟩ := R.tabs p hp
    refine ⟨ps, by rw [upd_ne (fun z => by rw [z, e] at h1; cases h1)]; exact h1, h2, fun pos cv hc => ?_⟩
    obtain ⟨c, e1, e2⟩ := h3 pos cv hc
    refine ⟨c, e1, ?_⟩
    rw [upd_ne (fun z => by rw [z, e] at e2; unfold LamX.CodeO at e2; cases e2)]
    exact e2
  · rcases R.scr p hp with ⟨o', z⟩ | z
    · exact .inl ⟨o', by rw [upd_ne (fun q => by rw [q, e] at z; cases z)]; exact z⟩
    · exact .inr z
theorem pe_frz {t : TE} (h : PE X e t) : PE X e (fun σ H Q => ∃ d u, H d = some u ∧ Mut (some u) ∧ ∀ od, t σ (upd H d (.frz od u)) Q) := ⟨fun pins s σ H Q I hw => by
  obtain ⟨d, u, hd, mu, hw⟩ := hw
  obtain ⟨od, I1⟩ := I.lock hd mu
  exact h.run pins s σ _ _ I1 (hw od)⟩
theorem ps_frz {t : TS} (h : PS X st t) : PS X st (fun D σ H => ∃ d u, H d = some u ∧ Mut (some u) ∧ ∀ od, t D σ (upd H d (.frz od u))) := ⟨fun pins s σ H Q I hw => by
  obtain ⟨d, u, hd, mu, hw⟩ := hw
  obtain ⟨od, I1⟩ := I.lock hd mu
  exact h.run pins s σ _ _ I1 (hw od)⟩
/-- the dict that slot i holds -/
def dFrz (i : Nat) (t : TED) : TED := fun δ M k => match δ[i]? with
  | some (some (.ref a)) => (match M a with | some (.dic kvs) => t (δ.set i (some (.dic (kvs.map (·.1)) (kvs.map (·.2))))) (delM M a) k | _ => False)
  | _ => False
def sFrz (i : Nat) (t : TSD) : TSD := fun D δ M => match δ[i]? with
  | some (some (.ref a)) => (match M a with | some (.dic kvs) => t D (δ.set i (some (.dic (kvs.map (·.1)) (kvs.map (·.2))))) (delM M a) | _ => False)
  | _ => False
theorem stt_swap {F : Hp} {σ : L2.St} {δ : Sl} {i : Nat} {a : Addr} {d : D} (hs : Stt F σ δ) (e : δ[i]? = some (some (.ref a))) (r : Rdd F d (.ref a)) : Stt F σ (δ.set i (some d)) := by
  obtain ⟨v, q, rv⟩ := hs.2 i _ e
  have rv : v = .ref a := rv
  subst rv
  have := hs.set i r
  have e2 : σ.set i (some (.ref a)) = σ := by
    apply List.ext_getElem?
    intro j
    by_cases hj : j = i
    · subst hj
      obtain ⟨hl, _⟩ := List.getElem?_eq_some_iff.mp q
      rw [List.getElem?_set_self hl, q]
    · rw [List.getElem?_set_ne (Ne.symm hj)]
  rw [e2] at this
  exact this
theorem pd_frz (i : Nat) (h : PED W F0 X e te) : PED W F0 X e (dFrz i te) :=
  PE.wk (pe_frz h) fun σ H Q ⟨δ, F, M, k, hs, R, h, g⟩ => by
    unfold dFrz at h
    split at h
    · rename_i a ea
      split at h
      · rename_i kvs em
        obtain ⟨xs, q, t⟩ := (R.mo a _ em).2
        refine ⟨a, _, q, trivial, fun od => ?_⟩
        obtain ⟨R2, r2⟩ := freezeD (od := od) R em q t
        exact ⟨_, _, _, k, stt_swap (hs.le (Le.new (R.mo a _ em).1)) ea r2, R2, h, g.mono (Le.new (R.mo a _ em).1)⟩
      · exact h.elim
    · exact h.elim
theorem psd_frz (i : Nat) (h : PSD W F0 X st ts) : PSD W F0 X st (sFrz i ts) :=
  PS.wk (ps_frz h) fun D σ H ⟨δ, F, M, d, hs, R, h, g⟩ => by
    unfold sFrz at h
    split at h
    · rename_i a ea
      split at h
      · rename_i kvs em
        obtain ⟨xs, q, t⟩ := (R.mo a _ em).2
        refine ⟨a, _, q, trivial, fun od => ?_⟩
        obtain ⟨R2, r2⟩ := freezeD (od := od) R em q t
        exact ⟨_, _, _, d, stt_swap (hs.le (Le.new (R.mo a _ em).1)) ea r2, R2, h, g.mono (Le.new (R.mo a _ em).1)⟩
      · exact h.elim
    · exact h.elim
/-- a list that slot i holds is not changed from here on -/
def sFrzL (i : Nat) (t : TSD) : TSD := fun D δ M => match δ[i]? with
  | some (some (.ref a)) => (match M a with | some (.lst ds) => t D (δ.set i (some (.lst ds))) (delM M a) | _ => False)
  | _ => False
theorem psd_frzL (i : Nat) (h : PSD W F0 X st ts) : PSD W F0 X st (sFrzL i ts) :=
  PS.wk h fun D σ H ⟨δ, F, M, d, hs, R, h, g⟩ => by
    unfold sFrzL at h
    split at h
    · rename_i a ea
      split at h
      · rename_i ds em
        obtain ⟨xs, q, t⟩ := (R.mo a _ em).2
        obtain ⟨R2, r2⟩ := R.freezeL em q t
        exact ⟨_, _, _, d, stt_swap (hs.le (Le.new (R.mo a _ em).1)) ea r2, R2, h, g.mono (Le.new (R.mo a _ em).1)⟩
      · exact h.elim
    · exact h.elim
/-! ### walks over the keys of a frozen dict, zip, enumerate -/
def keyOfK : Key → D
  | .inl i => .int i
  | .inr x => .str x
theorem keyOfK_rdd {F : Hp} (k : Key) : Rdd F (keyOfK k) (kV k) := by cases k <;> rfl
def dItK (te : TED) : TID := fun δ M k => te δ M fun d M1 => match d with | .dic ks ds => k (ks.map keyOfK) M1 | _ => False
theorem pid_keys {tg : Expr} (he : PED W F0 X e te) : PID W F0 X tg e (dItK te) :=
  PI.wk (pi_keys he) fun σ H R ⟨δ, F, M, k, hs, Rp, h, gg⟩ => ⟨δ, F, M, _, hs, Rp, h, fun d M1 h1 v F1 H1 R1 r1 => by
    cases d with
    | dic ks ds =>
      obtain ⟨a, xs, o, rfl, q, hl, t⟩ := r1
      refine ⟨a, o, rfl, .inl ⟨_, R1.le _ _ q, gg _ M1 h1 _ F1 H1 R1 ⟨fun i F' M' H' hi R' => ?_, fun i d F' M' H' x H2 ed R' y => ?_, fun F' M' H' R' => ?_⟩⟩⟩
      · refine ⟨R'.le _ _ (R'.base _ _ q), ?_⟩
        simp at hi ⊢
        omega
      · obtain ⟨rfl, kk, vv, ek, ex⟩ := y
        refine ⟨F', R'.here, ?_⟩
        have e1 : ks[i]? = some kk := by
          have := congrArg (Option.map Prod.fst) ek
          rw [← List.getElem?_map, List.map_fst_zip (by omega)] at this
          exact this
        rw [List.getElem?_map, e1] at ed
        cases ed
        rw [ex]; exact keyOfK_rdd kk
      · refine ⟨R'.le _ _ (R'.base _ _ q), ?_⟩
        simp
        omega
    | _ => exact h1.elim⟩
def dItZ (t : TAD) : TID := fun δ M k => t δ M fun ds M1 => match ds with
  | [.tup xs, .tup ys] => k ((xs.zip ys).map fun p => D.tup [p.1, p.2]) M1
  | [.lst xs, .lst ys] => k ((xs.zip ys).map fun p => D.tup [p.1, p.2]) M1
  | _ => False
theorem zip_at {xs ys : List D} {i : Nat} {d : D} (h : ((xs.zip ys).map fun p => D.tup [p.1, p.2])[i]? = some d) : ∃ x y, xs[i]? = some x ∧ ys[i]? = some y ∧ d = .tup [x, y] := by
  rw [List.getElem?_map] at h
  cases e : (xs.zip ys)[i]? with
  | none => rw [e] at h; cases h
  | some p =>
    rw [e] at h; cases h
    obtain ⟨e1, e2⟩ := List.getElem?_zip_eq_some.mp e
    exact ⟨p.1, p.2, e1, e2, rfl⟩
theorem gives_zipT {F : Hp} {a b : Addr} {xs ys : List D} {xv yv : List V} (ha : F a = some (.tup xv)) (hb : F b = some (.tup yv)) (ra : Rds F xs xv) (rb : Rds F ys yv) : Gives W (RZ.ItzT W.K a b) F ((xs.zip ys).map fun p => D.tup [p.1, p.2]) := by
  have la := ra.length
  have lb := rb.length
  refine ⟨fun i F' M H hi R => ?_, fun i d F' M H x H' e R y => ?_, fun F' M H R => ?_⟩
  · simp at hi
    exact ⟨xv, yv, xv[i]'(by omega), yv[i]'(by omega), SqT.of (R.le _ _ (R.base _ _ ha)), SqT.of (R.le _ _ (R.base _ _ hb)), by rw [List.getElem?_eq_getElem], by rw [List.getElem?_eq_getElem]⟩
  · obtain ⟨T, u, w, rfl, nT, rfl, q1, q2⟩ := y
    obtain ⟨dx, dy, e1, e2, rfl⟩ := zip_at e
    obtain ⟨vx, f1, r1⟩ := ra.get e1
    obtain ⟨vy, f2, r2⟩ := rb.get e2
    have g1 := q1 xv (SqT.of (R.le _ _ (R.base _ _ ha)))
    have g2 := q2 yv (SqT.of (R.le _ _ (R.base _ _ hb)))
    rw [f1] at g1; cases g1
    rw [f2] at g2; cases g2
    refine ⟨_, R.here.newF nT, T, [_, _], rfl, upd_same, .cons ((r1.le R.base).le (Le.new (R.fresh nT).2)) (.cons ((r2.le R.base).le (Le.new (R.fresh nT).2)) .nil)⟩
  · refine ⟨xv, yv, SqT.of (R.le _ _ (R.base _ _ ha)), SqT.of (R.le _ _ (R.base _ _ hb)), ?_⟩
    simp
    omega
theorem gives_zipL {F : Hp} {a b : Addr} {xs ys : List D} {xv yv : List V} (ha : F a = some (.lst xv)) (hb : F b = some (.lst yv)) (ra : Rds F xs xv) (rb : Rds F ys yv) : Gives W (Itz W.K a b) F ((xs.zip ys).map fun p => D.tup [p.1, p.2]) := by
  have la := ra.length
  have lb := rb.length
  refine ⟨fun i F' M H hi R => ?_, fun i d F' M H x H' e R y => ?_, fun F' M H R => ?_⟩
  · simp at hi
    exact ⟨xv, yv, xv[i]'(by omega), yv[i]'(by omega), SqL.of (R.le _ _ (R.base _ _ ha)), SqL.of (R.le _ _ (R.base _ _ hb)), by rw [List.getElem?_eq_getElem], by rw [List.getElem?_eq_getElem]⟩
  · obtain ⟨T, u, w, rfl, nT, rfl, q1, q2⟩ := y
    obtain ⟨dx, dy, e1, e2, rfl⟩ := zip_at e
    obtain ⟨vx, f1, r1⟩ := ra.get e1
    obtain ⟨vy, f2, r2⟩ := rb.get e2
    have g1 := q1 xv (SqL.of (R.le _ _ (R.base _ _ ha)))
    have g2 := q2 yv (SqL.of (R.le _ _ (R.base _ _ hb)))
    rw [f1] at g1; cases g1
    rw [f2] at g2; cases g2
    refine ⟨_, R.here.newF nT, T, [_, _], rfl, upd_same, .cons ((r1.le R.base).le (Le.new (R.fresh nT).2)) (.cons ((r2.le R.base).le (Le.new (R.fresh nT).2)) .nil)⟩
  · refine ⟨xv, yv, SqL.of (R.le _ _ (R.base _ _ ha)), SqL.of (R.le _ _ (R.base _ _ hb)), ?_⟩
    simp
    omega
theorem pid_zip {e2 : Expr} {p tpos : Pos} {elts : List Expr} {kk : Nat} (hW : X.K = W.K) (hm : X.mg "zip" = none) (ha : PAD W F0 X [e, e2] t) (hg : Gl X "zip" := by rfl)
    (hs : starEach [e, e2] X.env = (false, eval e X.env) :: starEach [e2] X.env := by rfl) (hpl : (backTo pos (starEach [e2] X.env)).any (·.1) = false := by rfl) : PID W F0 X (.Tuple elts kk tpos) (.Call (.Name "zip" p) [e, e2] [] pos) (dItZ t) :=
  PI.wk (RZ.pi_zipA hg hm ha hs hpl) fun σ H R ⟨δ, F, M, k, hs, Rp, h, gg⟩ => ⟨δ, F, M, _, hs, Rp, h, fun ds M1 h1 vs F1 H1 R1 r1 => by
    split at h1
    · rename_i xs ys
      obtain ⟨v, _, rfl, ⟨a, xv, rfl, qa, ra⟩, v2, _, rfl, ⟨b, yv, rfl, qb, rb⟩, rfl⟩ := r1
      exact ⟨a, b, xv, yv, rfl, .inr ⟨SqT.of (R1.le _ _ qa), SqT.of (R1.le _ _ qb), hW ▸ gg _ M1 h1 _ F1 H1 R1 (gives_zipT qa qb ra rb)⟩⟩
    · rename_i xs ys
      obtain ⟨v, _, rfl, ⟨a, xv, rfl, qa, ra⟩, v2, _, rfl, ⟨b, yv, rfl, qb, rb⟩, rfl⟩ := r1
      exact ⟨a, b, xv, yv, rfl, .inl ⟨SqL.of (R1.le _ _ qa), SqL.of (R1.le _ _ qb), hW ▸ gg _ M1 h1 _ F1 H1 R1 (gives_zipL qa qb ra rb)⟩⟩
    · exact h1.elim⟩
/-! ### dict comprehensions -/
def dcD (g : TGD) (tt : TTD) (tk tv : TED) (vs : List Nat) (δ : Sl) (p : Addr) : List D → List (Key × D) → Sto → (List (Key × D) → Sto → Prop) → Prop
  | [], acc, M, k => k acc M
  | d :: ds, acc, M, k => g d (wipeD δ vs) (updM M p (.dic acc)) fun δ2 M2 => tt δ2 M2 fun b M3 => match b with
    | true => tk δ2 M3 fun y M4 => tv δ2 M4 fun z M5 => match keyD y with
      | some kk => acc.length < sizeLine ∧ ∃ M6, M6 p = none ∧ M5 = updM M6 p (.dic acc) ∧ dcD g tt tk tv vs δ p ds (putD acc kk z) M6 k
      | none => False
    | false => ∃ M5, M5 p = none ∧ M3 = updM M5 p (.dic acc) ∧ dcD g tt tk tv vs δ p ds acc M5 k
def dDc (ti : TID) (g : TGD) (tt : TTD) (tk tv : TED) (vs : List Nat) : TED := fun δ M k => ti δ M fun ds M1 => ∀ p, M1 p = none → dcD g tt tk tv vs δ p ds [] M1 fun acc M2 => M2 p = none ∧ k (.ref p) (updM M2 p (.dic acc))
theorem wipe_idem (vs : List Nat) (σ : L2.St) : L2.wipe (L2.wipe σ vs) vs = L2.wipe σ vs := by
  have gen : ∀ (us : List Nat), (∀ u ∈ us, u ∈ vs) → ∀ (τ : L2.St), (∀ u ∈ vs, τ[u]? = some none ∨ τ[u]? = none) → L2.wipe τ us = τ := by
    intro us
    induction us with
    | nil => intro _ _ _; rfl
    | cons u us ih =>
      intro hu τ hτ
      show (L2.wipe τ us).set u none = τ
      rw [ih (fun z hz => hu z (List.mem_cons_of_mem _ hz)) τ hτ]
      rcases hτ u (hu u List.mem_cons_self) with e | e
      · apply List.ext_getElem?
        intro j
        by_cases hj : j = u
        · subst hj
          obtain ⟨hl, _⟩ := List.getElem?_eq_some_iff.mp e
          rw [List.getElem?_set_self hl, e]
        · rw [List.getElem?_set_ne (Ne.symm hj)]
      · exact List.set_eq_of_length_le (List.getElem?_eq_none_iff.mp e)
  refine gen vs (fun _ h => h) _ fun u hu => ?_
  cases hg : (L2.wipe σ vs)[u]? with
  | none => exact .inr rfl
  | some o =>
    cases o with
    | none => exact .inl rfl
    | some x => exact absurd hu (wipe_some hg).2
theorem tDc_of {ti : TID} {g : TGD} {gv : TG} {tk : TED} {vs : List Nat} {σ : L2.St} {H : Hp} {Q : VK} (sg : SimG W gv g vs) (h0 : LE W F0 (dDc ti g tt tk tv vs) σ H Q) :
    L2.tDc (LI W F0 ti) gv (LT W F0 tt) (LE W F0 tk) (LE W F0 tv) vs σ H Q :=
  let ⟨δ, F, M, k, hs, R, h, gg⟩ := h0
  ⟨δ, F, M, _, hs, R, h, fun ds M1 h1 J F1 H1 R1 G p np => by
    have hM := (R1.fresh np).1
    have R1' : Rep W F F1 (updM M1 p (.dic [])) (upd H1 p (.dK [])) := R1.newM np ⟨[], upd_same, .nil⟩
    refine ⟨fun i m H' => i ≤ ds.length ∧ m = ds.length - i ∧ ∃ F' M' acc, M' p = none ∧ Rep W F1 F' (updM M' p (.dic acc)) H' ∧ dcD g tt tk tv vs δ p (ds.drop i) acc M' (fun acc M2 => M2 p = none ∧ k (.ref p) (updM M2 p (.dic acc))), ⟨_, Nat.zero_le _, rfl, F1, M1, [], hM, R1'.here, h1 p hM⟩, ?_⟩
    rintro i m H' ⟨hi, rfl, F', M', acc, nM, R', h'⟩
    by_cases hlt : i < ds.length
    · rw [List.drop_eq_getElem_cons hlt] at h'
      refine .inr ⟨G.go i F' _ H' hlt R', fun H2 => i + 1 ≤ ds.length ∧ ∃ F' M' acc, M' p = none ∧ Rep W F1 F' (updM M' p (.dic acc)) H2 ∧ dcD g tt tk tv vs δ p (ds.drop (i + 1)) acc M' (fun acc M2 => M2 p = none ∧ k (.ref p) (updM M2 p (.dic acc))), fun H2 ⟨z, w⟩ => ⟨ds.length - (i + 1), by omega, z, rfl, w⟩, fun x H2 y => ?_⟩
      obtain ⟨F2, R2, r2⟩ := G.yld i ds[i] F' _ H' x H2 (by simp [hlt]) R' y
      have l2 : Le F F2 := R1.base.trans (R'.base.trans R2.base)
      refine sg ds[i] x _ (wipeD δ vs) F' F2 _ H2 _ _ r2 ((hs.le l2).wipe vs) R2 h' fun δ3 M3 q3 σ3 F3 H3 R3 s3 w3 => ⟨by rw [w3]; exact wipe_idem vs σ, ?_⟩
      refine ⟨δ3, F3, M3, _, s3, R3.rebase (R.base.trans l2), q3, fun b M4 q4 F4 H4 R4 => ?_⟩
      have l4 : Le F1 F4 := R'.base.trans (R2.base.trans (R3.base.trans R4.base))
      cases b with
      | false =>
        refine L2.iteF ?_
        obtain ⟨M5, n5, e5, q5⟩ := q4
        exact ⟨hlt, F4, M5, acc, n5, e5 ▸ R4.rebase (R'.base.trans (R2.base.trans R3.base)), q5⟩
      | true =>
        refine L2.iteT ?_
        refine ⟨δ3, F4, M4, _, s3.le R4.base, R4.rebase (R.base.trans (l2.trans R3.base)), q4, fun yd M5 h5 yv F5 H5 R5 r5 => ⟨δ3, F5, M5, _, s3.le (R4.base.trans R5.base), R5.rebase (R.base.trans (l2.trans (R3.base.trans R4.base))), h5, fun zd M6 h6 zv F6 H6 R6 r6 => ?_⟩⟩
        have h6 : (match keyD yd with
          | some kk => acc.length < sizeLine ∧ ∃ M6', M6' p = none ∧ M6 = updM M6' p (.dic acc) ∧ dcD g tt tk tv vs δ p (ds.drop (i + 1)) (putD acc kk zd) M6' (fun acc M2 => M2 p = none ∧ k (.ref p) (updM M2 p (.dic acc)))
          | none => False) := h6
        split at h6
        · rename_i kk ek
          obtain ⟨hz, M7, n7, e7, q7⟩ := h6
          subst e7
          obtain ⟨hF6, xs, ex, rx⟩ := R6.mo p _ updM_same
          have l6 : Le F1 F6 := l4.trans (R5.base.trans R6.base)
          obtain ⟨ys, f1, f2⟩ := zip_put (k := kk) (rv := r6) rx
          refine ⟨_, kk, keyD_of ek r5, ex, by have := zip_len rx; unfold zipV at this; rw [this]; exact hz, hlt, F6, M7, putD acc kk zd, n7, ?_, q7⟩
          have Rw := (R6.rebase (l4.trans R5.base)).write (a := p) (m := .dic acc) (m' := .dic (putD acc kk zd)) (o := .dK (putK ((acc.map (·.1)).zip xs) kk zv)) updM_same (fun _ z => by cases z) (fun _ z => by cases z) (by rw [ex]; trivial) ⟨ys, by rw [upd_same]; exact congrArg _ (congrArg _ f1), f2⟩
          have e8 : updM (updM M7 p (.dic acc)) p (.dic (putD acc kk zd)) = updM M7 p (.dic (putD acc kk zd)) := by
            funext b
            unfold updM
            split <;> rfl
          rw [e8] at Rw
          exact Rw
        · exact h6.elim
    · have e : i = ds.length := by omega
      subst e
      rw [List.drop_length] at h'
      obtain ⟨n2, hq⟩ := h'
      exact .inl ⟨G.stop F' _ H' R', gg _ _ hq _ _ _ (R'.rebase R1.base) rfl⟩⟩
theorem pd_dc {kx vx tg iter : Expr} {ifs : List Expr} {scope : Scope} {own : List (Str × Nat)} {ti : TID} {g : TGD} {gv : TG} {tk : TED} (hc : X.calm = true) (hN : X.N.Nodup) (hi : PID W F0 X tg iter ti) (ok : BlkOk X.N X.env.scope scope own) (sg : SimG W gv g (own.map (·.2)))
    (hg : ∀ (s : Shared) (H : Hp) (C : Addr) (cl : List (Str × Addr)) (fp : List Addr), PG (X.blk s H scope (compEnvC scope cl C X.env) fp) tg gv) (ht : ∀ (s : Shared) (H : Hp) (C : Addr) (cl : List (Str × Addr)) (fp : List Addr), PTsD W F0 (X.blk s H scope (compEnvC scope cl C X.env) fp) ifs tt)
    (hk : ∀ (s : Shared) (H : Hp) (C : Addr) (cl : List (Str × Addr)) (fp : List Addr), PED W F0 (X.blk s H scope (compEnvC scope cl C X.env) fp) kx tk)
    (he : ∀ (s : Shared) (H : Hp) (C : Addr) (cl : List (Str × Addr)) (fp : List Addr), PED W F0 (X.blk s H scope (compEnvC scope cl C X.env) fp) vx tv) (hs : ∀ x, foldedSetIterable iter X.env x = pure x := by intro _; rfl) :
    PED W F0 X (.DictComp kx vx [⟨tg, iter, ifs, 0⟩] scope pos) (dDc ti g tt tk tv (own.map (·.2))) :=
  PE.wk (pe_dc hc hN hi ok hg ht hk he hs) fun σ H Q h => tDc_of sg h
/-! ### x in a tuple of ints -/
def rInT (neg : Bool) : R2D := fun x y M k => match x, seqOf M y with
  | .int j, some ds => (match intsOf ds with | some ns => k (.bl (if neg then !decide (j ∈ ns) else decide (j ∈ ns))) M | none => False)
  | _, _ => False
theorem inV_ints (j : Int) (ns : List Int) : inV (.int j) (ns.map V.int) = decide (j ∈ ns) := by
  unfold inV
  induction ns with
  | nil => rfl
  | cons n ns ih =>
    rw [List.map_cons, List.any_cons, ih]
    by_cases h : n = j
    · subst h; simp [eqV]
    · have : eqV (V.int n) (V.int j) = false := by simp [eqV, h]
      rw [this]; simp [Ne.symm h]
theorem flat_ints (ns : List Int) : (ns.map V.int).all flatV = true := by induction ns <;> simp_all [flatV]
theorem od_in (neg : Bool) : OpD W X (compareOp (if neg then .NotIn else .In)) (rInT neg) := by
  intro pins s σ H x y v u Q I rx ry ⟨F, M, k, d, e, R, rd, re, h, g⟩
  unfold rInT at h
  split at h
  · rename_i j ds es
    split at h
    · rename_i ns en
      cases rd
      obtain ⟨p, xs, rfl, t, q⟩ := seqOf_at (K := X.K) R es re
      have hq : SqL X.K H p xs ∨ SqT X.K H p xs := q.imp SqL.of SqT.of
      rw [intsOf_at en t] at hq
      cases neg with
      | false => exact op_in_seq pins s σ H _ _ v u Q I rx ry ⟨p, _, rfl, hq, rfl, flat_ints ns, by rw [inV_ints]; exact g _ _ h _ F H R rfl⟩
      | true => exact op_notIn_seq pins s σ H _ _ v u Q I rx ry ⟨p, _, rfl, hq, rfl, flat_ints ns, by rw [inV_ints]; exact g _ _ h _ F H R rfl⟩
    · exact h.elim
  · exact h.elim
/-- .. of the written part, at A -/
def rInK (A : Addr) (ns : List Int) : R2D := fun x y M k => match x, y with
  | .int j, .ref b => b = A ∧ k (.bl (decide (j ∈ ns))) M
  | _, _ => False
theorem od_inK {A : Addr} {ns : List Int} (hK : ∀ H, SqT X.K H A (ns.map V.int)) : OpD W X (compareOp .In) (rInK A ns) := by
  intro pins s σ H x y v u Q I rx ry ⟨F, M, k, d, e, R, rd, re, h, g⟩
  unfold rInK at h
  split at h
  · obtain ⟨e1, h⟩ := h
    subst e1
    cases rd; cases re
    exact op_in_seq pins s σ H _ _ v u Q I rx ry ⟨_, _, rfl, .inr (hK H), rfl, flat_ints ns, by rw [inV_ints]; exact g _ _ h _ F H R rfl⟩
  · exact h.elim
end
end DL
set_option maxHeartbeats 4000000
namespace DL
open PySem PySem.Spec L2
open PyProof.Rows (IntsAre)

/-! ### set(list of ints), the members known -/
def set0 (w : World) : Obj := { cls := .type "set", dict := none, data := .set #[] 0 (.fresh 0 0 (!w.params.followText "set-order")) }
section
variable {P : Program} {w : World} {A : Around} {E : Value → Shared → Prop} {s : Shared}
/-- the members of a list of ints go into the new set at S -/
theorem fill_ints {S l : Addr} {items : Array Value} {ns : List Int} {R : Result → Shared → Prop} (hA : A.handled = none) (hS : s.heap.get? S = some (set0 w)) (hl : s.heap.IsList l items) (hi : IntsAre items.toList ns) (hb : ns.length + 1 < scanBound)
    (h : ∀ s' c, (∀ b o, b ≠ S → s.heap.get? b = some o → s'.heap.get? b = some o) → s'.gens = s.gens → s'.drawn = s.drawn → s'.os = s.os → c ≤ ns.length → SetR w s'.heap S (fun j => decide (j ∈ ns)) c → R (.ok (.ret .none)) s') :
    codeAny (model P w) A (.builtin "set.update.loop" ⟨[.ref S, .ref s.heap.objs.size], []⟩) R { s with heap := s.heap.push { cls := .type "list_iterator", data := .fields #[.ref l, .int 0 0] } } := by
  have hn : items.size = ns.length := (Array.length_toList ..).symm.trans (IntsAre.length hi)
  have bS : S < s.heap.objs.size := Heap.lt_size hS
  obtain ⟨ol, eol, rest⟩ := id hl
  have bl : l < s.heap.objs.size := Heap.lt_size eol
  have lS : l ≠ S := fun z => by
    subst z
    rw [hS] at eol; cases eol
    have rc : (Value.type "set") = Value.type "list" := rest.1
    exact absurd rc (by decide)
  refine set_update_ints ((Walks.list (A := A.in1) (by simpa using hA) _ l (Nat.ne_of_lt bl) items).toS) S ?_ ns hn hb (fun i v hv => ?_) (items.size - 0) 0 _ rfl (Nat.zero_le _) ⟨⟨_, Heap.get?_push_size _ rfl, rfl, rfl⟩, hl.push _⟩
    ⟨0, Nat.le_refl 0, setR_new_at (Heap.get?_push_of_some _ hS)⟩ fun s' c mv hc R1 => ?_
  · intro z
    rcases List.mem_cons.mp z with z | z
    · exact Nat.ne_of_lt bS z
    · exact lS (List.mem_singleton.mp z).symm
  · have lt : i < ns.length := hn ▸ (Array.getElem?_eq_some_iff.mp hv).1
    obtain ⟨t, e⟩ := PyProof.Rows.IntsAre.int_at hi i v (by rw [Array.getElem?_toList]; exact hv)
    have eg : ns.getD i 0 = ns[i] := by simp [List.getD, List.getElem?_eq_getElem lt]
    exact ⟨ns[i], t, List.getElem?_eq_getElem lt, by rw [e, eg]⟩
  · refine h s' c (fun b o nb e => mv.heap b o (fun z => ?_) (Heap.get?_push_of_some _ e)) mv.gens mv.drawn mv.os (hn ▸ hc) R1
    rcases List.mem_cons.mp z with z | z
    · exact nb z
    · exact Nat.ne_of_lt (Heap.lt_size e) (List.mem_singleton.mp z)
/-- set.__init__ over a list -/
theorem init_ints {S l : Addr} {items : Array Value} {ns : List Int} {Q : PySem.Fin → Shared → Prop} (hA : A.handled = none) (hS : s.heap.get? S = some (set0 w)) (hl : s.heap.IsList l items) (hi : IntsAre items.toList ns) (hb : ns.length + 1 < scanBound)
    (h : ∀ s' c, (∀ b o, b ≠ S → s.heap.get? b = some o → s'.heap.get? b = some o) → s'.gens = s.gens → s'.drawn = s.drawn → s'.os = s.os → c ≤ ns.length → SetR w s'.heap S (fun j => decide (j ∈ ns)) c → Q (.done (.ret .none)) s') :
    wpAny (model P w) A (Builtin.«set.__init__» ⟨[.ref S, .ref l], []⟩) Q E s := by
  obtain ⟨⟨lc, ld, lda, lsl⟩, el, ec, nl, ed⟩ := id hl
  dsimp only at ec ed
  subst ec ed
  have q1 := F.sub_list_set
  have q2 := F.sub_list_frozenset
  have q3 : (Value.type "list" == Value.type "dict") = false := by decide
  unfold Builtin.«set.__init__» Builtin.Frozenset.updateFrom noKeywords
  generalize hg : pyIter = it
  wp_walk
  subst hg
  refine wpAny_pyIter_list hl (wpAny_bind (wpAny_runValue (fill_ints (by simpa using hA) hS hl hi hb fun s' c k g d o hc R1 => ?_)))
  show wpAny _ _ _ _ _ _
  exact wpAny_pure (wpAny_pure (h s' c k g d o hc R1))
theorem call_set_listI {l : Addr} {items : Array Value} {ns : List Int} {Q : Value → Shared → Prop} (hA : A.handled = none) (hl : s.heap.IsList l items) (hi : IntsAre items.toList ns) (hb : ns.length + 1 < scanBound)
    (h : ∀ s' c, (∀ b o, s.heap.get? b = some o → s'.heap.get? b = some o) → s'.gens = s.gens → s'.drawn = s.drawn → s'.os = s.os → c ≤ ns.length → SetR w s'.heap s.heap.objs.size (fun j => decide (j ∈ ns)) c → Q (.ref s.heap.objs.size) s') :
    wpAny (model P w) A (call (.type "set") [.ref l]) Q E s := by
  obtain ⟨cc, rst, m1⟩ := F.called_set.mro
  obtain ⟨m2, m3, m4, m5, m6⟩ := And.intro F.called_set.made (And.intro F.called_set.sub (And.intro F.called_set.notType (And.intro F.called_set.canCreate (F.typeCall_set_1 (.ref l)))))
  have z1 : (s.heap.push (set0 w)).get? s.heap.objs.size = some (set0 w) := Heap.get?_push_size _ rfl
  have z2 : Shared.TypeIs { s with heap := s.heap.push (set0 w) } (.ref s.heap.objs.size) "set" := ⟨_, z1, rfl⟩
  obtain ⟨m7, m8⟩ := And.intro F.called_set.init.lookup (F.called_set.init.bind (.ref s.heap.objs.size))
  refine wpAny_call (codeAny_of_tree ?_)
  refine (show wpAny (model P w) _ (callAny (.type "set") ⟨[.ref l], []⟩) _ _ _ from ?_)
  refine wpAny_pure (And.intro (Code.quiet_builtin _ (by decide +kernel)) (codeAny_builtin F.entry_type_call ?_))
  rw [show Around.under _ _ = _ from Around.under_plain (weight_type_call_type "set" [.ref l] []) rfl]
  repeat any_goals first | wp_step | assumption
  refine codeAny_mono (code_set_led1 (.ref l) (E := E) (Q₁ := fun v s1 => v = .ref s.heap.objs.size ∧ s1 = { s with heap := s.heap.push (set0 w) }) (And.intro rfl rfl)) fun r s1 p1 => ?_
  rcases r with er | fl
  · exact p1
  rcases fl with _ | _ | _ | fv
  all_goals try exact p1.elim
  obtain ⟨e1, e2⟩ := p1
  subst e1 e2
  repeat any_goals first | wp_step | assumption
  refine codeAny_mono (codeAny_call_builtin (R := wants (fun v s2 => v = .none ∧ ∃ c, (∀ b o, s.heap.get? b = some o → s2.heap.get? b = some o) ∧ s2.gens = s.gens ∧ s2.drawn = s.drawn ∧ s2.os = s.os ∧ c ≤ ns.length ∧ SetR w s2.heap s.heap.objs.size (fun j => decide (j ∈ ns)) c) E)
    F.called_set.init.plain F.entry_set_init (check_set_init_1 z2 ?_)) fun r s2 p2 => ?_
  · refine init_ints (by simpa using hA) z1 (hl.push _) hi hb fun s' c k g d o hc R1 => ?_
    exact ⟨rfl, c, fun b ob e => k b ob (Nat.ne_of_lt (Heap.lt_size e)) (Heap.get?_push_of_some _ e), g, d, o, hc, R1⟩
  · rcases r with er | fl
    · exact p2
    rcases fl with _ | _ | _ | fv
    all_goals try exact p2.elim
    obtain ⟨e1, c, k, g, d, o, hc, R1⟩ := p2
    subst e1
    repeat any_goals first | wp_step | assumption
    exact h s2 c k g d o hc R1
end
/-! ### sorted(set(list of ints)) -/
theorem Rep.junk {W : Wd} {F0 F : Hp} {M : Sto} {H : Hp} {p : Addr} {o : HO} (R : Rep W F0 F M H) (h : H p = none) : Rep W F0 F M (upd H p o) := by
  have e : ∀ b u, H b = some u → upd H p o b = some u := fun b u q => by rw [upd_ne (ne_of_none q h)]; exact q
  exact ⟨R.base, fun b u q => e b u (R.le b u q), fun b m q => ⟨(R.mo b m q).1, (R.mo b m q).2.grow e fun _ _ z => z⟩, R.tabs.ext e, R.nt, scr_ext e R.scr⟩
def insU (n : Int) : List Int → List Int
  | [] => [n]
  | m :: r => if n < m then n :: m :: r else if n = m then m :: r else m :: insU n r
def sortU : List Int → List Int
  | [] => []
  | n :: r => insU n (sortU r)
theorem mem_insU {n j : Int} : ∀ {l : List Int}, j ∈ insU n l ↔ j = n ∨ j ∈ l
  | [] => by simp [insU]
  | m :: r => by
    unfold insU
    split
    · simp
    · split
      · rename_i h; subst h; simp
      · rw [List.mem_cons, List.mem_cons, mem_insU]
        constructor <;> (intro z; rcases z with z | z | z <;> simp [z])
theorem mem_sortU {j : Int} : ∀ {l : List Int}, j ∈ sortU l ↔ j ∈ l
  | [] => by simp [sortU]
  | n :: r => by rw [sortU, mem_insU, mem_sortU, List.mem_cons]
theorem pw_insU {n : Int} : ∀ {l : List Int}, l.Pairwise (· < ·) → (insU n l).Pairwise (· < ·)
  | [], _ => by simp [insU]
  | m :: r, h => by
    obtain ⟨h1, h2⟩ := List.pairwise_cons.mp h
    unfold insU
    split
    · rename_i lt
      refine List.pairwise_cons.mpr ⟨fun x hx => ?_, h⟩
      rcases List.mem_cons.mp hx with e | e
      · omega
      · have := h1 x e; omega
    · split
      · exact h
      · refine List.pairwise_cons.mpr ⟨fun x hx => ?_, pw_insU h2⟩
        rcases mem_insU.mp hx with e | e
        · omega
        · exact h1 x e
theorem pw_sortU : ∀ {l : List Int}, (sortU l).Pairwise (· < ·)
  | [] => .nil
  | n :: r => pw_insU pw_sortU
theorem pw_eq : ∀ {a b : List Int}, a.Pairwise (· < ·) → b.Pairwise (· < ·) → (∀ k, k ∈ a ↔ k ∈ b) → a = b
  | [], [], _, _, _ => rfl
  | [], y :: b, _, _, h => by have := (h y).mpr (by simp); simp at this
  | x :: a, [], _, _, h => by have := (h x).mp (by simp); simp at this
  | x :: a, y :: b, ha, hb, h => by
    obtain ⟨a1, a2⟩ := List.pairwise_cons.mp ha
    obtain ⟨b1, b2⟩ := List.pairwise_cons.mp hb
    have hxy : x = y := by
      have q1 := (h x).mp (by simp)
      have q2 := (h y).mpr (by simp)
      rcases List.mem_cons.mp q1 with e | e
      · exact e
      · rcases List.mem_cons.mp q2 with e2 | e2
        · exact e2.symm
        · have := b1 x e; have := a1 y e2; omega
    subst hxy
    refine congrArg _ (pw_eq a2 b2 fun k => ⟨fun z => ?_, fun z => ?_⟩)
    · rcases List.mem_cons.mp ((h k).mp (List.mem_cons_of_mem _ z)) with e | e
      · have := a1 k z; omega
      · exact e
    · rcases List.mem_cons.mp ((h k).mpr (List.mem_cons_of_mem _ z)) with e | e
      · have := b1 k z; omega
      · exact e
def rSetLI (K : PySem.W.Frag) (w : World) : List V → Hp → VK → Prop := fun vs H Q => ∃ (a : Addr) (ns : List Int), vs = [.ref a] ∧ SqL K H a (ns.map V.int) ∧ ns.length ≤ 1000 ∧
  ∀ p c, c ≤ ns.length → H p = none → Q (.ref p) (upd H p (SetO w p (fun j => decide (j ∈ ns)) c))
section
variable {W : Wd} {F0 : Hp} {X : Cx} {pos : Pos} {a b c e i o : Expr} {ta tb tc te td ty tx tv : TED}
theorem cr_setLI (hc : X.calm = true) : CallR X (.type "set") (rSetLI X.K X.w) := by
  intro pins s σ H vs us Q I r ⟨a, ns, ev, hs, hl, q⟩
  subst ev
  rw [Vals.ref1 r]
  obtain ⟨its, rv, pl, hz⟩ := I.list hs
  have hi : IntsAre its.toArray.toList ns := ints_of_vals rv
  refine call_set_listI (I.ok.hd hc) (let ⟨o, n, ho, hcl, _, hd⟩ := pl; ⟨o, ho, hcl, n, hd⟩) hi (by unfold scanBound; omega) fun s' c k g d o hcn R1 => ?_
  have hn : H s.heap.objs.size = none := I.hok.fresh (Nat.le_refl _)
  have J : Inv X pins σ (upd H s.heap.objs.size (SetO X.w s.heap.objs.size (fun j => decide (j ∈ ns)) c)) { s with heap := s'.heap, gens := s'.gens, drawn := s'.drawn, toks := s'.toks } :=
    I.call (ch := []) (Un.laid k (Nat.le_refl _) hn) (I.hok.laid k (Nat.le_refl _) (setO_new R1)) (by rw [g]; exact I.bare) (fun _ z => nomatch z)
  have e : s' = { s with heap := s'.heap, gens := s'.gens, drawn := s'.drawn, toks := s'.toks } := by
    cases s'
    cases s
    cases o
    rfl
  rw [e]
  exact ⟨.ref s.heap.objs.size, _, J, rfl, q _ c hcn hn⟩
def dSSet (te : TED) : TED := fun δ M k => te δ M fun x M1 => match lstOf M1 x with
  | some ds => (match intsOf ds with | some ns => ns.length < 64 ∧ k (.lst ((sortU ns).map D.int)) M1 | none => False)
  | none => False
theorem pd_sortedSet {p1 p2 pos2 : Pos} (hc : X.calm = true) (hm1 : X.mg "sorted" = none) (hm2 : X.mg "set" = none) (he : PED W F0 X e te) (hg1 : Gl X "sorted" := by rfl) (hg2 : Gl X "set" := by rfl)
    (st : ∀ e : Expr, starEach [e] X.env = [(false, eval e X.env)] := by intro _; rfl) : PED W F0 X (.Call (.Name "sorted" p1) [.Call (.Name "set" p2) [e] [] pos2] [] pos) (dSSet te) :=
  PE.wk (pe_callB (cr_sortedSet hc) hg1 hm1 PyProof.Rows.boot_sorted (pa_cons (pe_callTy (cr_setLI hc) hg2 hm2 PyProof.Rows.boot_set (pa_cons he pa_nil (st _)) (by decide) (by decide) (st _) rfl) pa_nil (st _)) (by decide) (by decide) (st _) rfl) fun σ H Q ⟨δ, F, M, k, hs, R, h, g⟩ =>
    ⟨δ, F, M, _, hs, R, h, fun x M1 h1 v F1 H1 R1 r1 => by
      cases es : lstOf M1 x with
      | none => rw [es] at h1; exact h1.elim
      | some ds =>
        rw [es] at h1
        dsimp only at h1
        cases ei : intsOf ds with
        | none => rw [ei] at h1; exact h1.elim
        | some ns =>
          rw [ei] at h1
          obtain ⟨h64, hk⟩ := h1
          obtain ⟨a, xs, rfl, t, q⟩ := lstOf_at R1 es r1
          rw [intsOf_at ei t] at q
          refine ⟨a, ns, rfl, SqL.of q, by omega, fun p cc hcc np => ⟨p, _, cc, rfl, upd_same, by omega, fun ns' p' pw mem len np' => ?_⟩⟩
          have eN : ns' = sortU ns := pw_eq pw pw_sortU fun j => by rw [mem, mem_sortU, decide_eq_true_eq]
          subst eN
          have R2 := R1.junk (o := SetO X.w p (fun j => decide (j ∈ ns)) cc) np
          exact g _ _ hk _ _ _ (R2.newF np') ⟨p', _, rfl, upd_same, Rds.ints _⟩⟩
/-! ### {k: v, ..} of written keys, never changed -/
def keyT : Key → TED
  | .inl j => dC (.int j)
  | .inr x => dC (.str x)
def PPsD (W : Wd) (F0 : Hp) (X : Cx) (pos : Pos) (keys : List (Option Expr)) (values : List Expr) (ps : List (Key × TED)) : Prop :=
  PPs X pos keys values (ps.map fun p => (LE W F0 (keyT p.1), LE W F0 p.2))
theorem ppd_nil : PPsD W F0 X pos [] [] [] := pps_nil
theorem ppd_cons {kx vx : Expr} {kk : Key} {ks : List (Option Expr)} {vs : List Expr} {ps : List (Key × TED)} (hk : PED W F0 X kx (keyT kk)) (hv : PED W F0 X vx tv) (hr : PPsD W F0 X pos ks vs ps) : PPsD W F0 X pos (some kx :: ks) (vx :: vs) ((kk, tv) :: ps) := pps_cons hk hv hr
theorem pairs_of {ps : List (Key × TED)} : ∀ {σ : L2.St} {H : Hp} {Q : List (V × V) → Hp → Prop} {δ : Sl} {F : Hp} {M : Sto} {k : List D → Sto → Prop}, Stt F σ δ → Rep W F0 F M H → dPairs ps δ M k →
    (∀ ds M', k ds M' → ∀ vs F' H', Rep W F F' M' H' → Rds F' ds vs → ps.length = vs.length → Q ((ps.map fun p => kV p.1).zip vs) H') → tPairs (ps.map fun p => (LE W F0 (keyT p.1), LE W F0 p.2)) σ H Q := by
  induction ps with
  | nil => intro σ H Q δ F M k hs R h g; exact g _ _ h [] F H R.here rfl rfl
  | cons p ps ih =>
    intro σ H Q δ F M k hs R h g
    obtain ⟨kk, tv⟩ := p
    refine ⟨δ, F, M, fun d M' => d = (match kk with | .inl j => D.int j | .inr x => .str x) ∧ M' = M, hs, R, by cases kk <;> exact ⟨rfl, rfl⟩, fun dk M1 hk vk F1 H1 R1 r1 => ?_⟩
    obtain ⟨e1, e2⟩ := hk
    subst e2
    have ek : vk = kV kk := by
      subst e1
      cases kk <;> exact r1
    subst ek
    refine ⟨δ, F1, _, _, hs.le R1.base, R1.rebase R.base, h, fun d M2 h2 v F2 H2 R2 r2 => ?_⟩
    refine ih (hs.le (R1.base.trans R2.base)) (R2.rebase (R.base.trans R1.base)) h2 fun ds M3 h3 vs F3 H3 R3 r3 hl => ?_
    exact g _ _ h3 (v :: vs) F3 H3 (R3.rebase (R1.base.trans R2.base)) ⟨v, vs, rfl, r2.le R3.base, r3⟩ (by simp [hl])
theorem merge_nodup : ∀ (more kvs : List (Key × V)), (more.map (·.1)).Nodup → (∀ p ∈ more, ∀ q ∈ kvs, q.1 ≠ p.1) → mergeK kvs more = kvs ++ more
  | [], kvs, _, _ => by simp [mergeK]
  | p :: r, kvs, nd, h => by
    have e : putK kvs p.1 p.2 = kvs ++ [p] := by
      unfold putK
      rw [if_neg]
      intro z
      obtain ⟨q, hq, eq⟩ := List.any_eq_true.mp z
      exact h p (by simp) q hq (by simpa using eq)
    rw [List.map_cons, List.nodup_cons] at nd
    show mergeK (putK kvs p.1 p.2) r = _
    rw [e, merge_nodup r (kvs ++ [p]) nd.2 fun p' hp' q hq => ?_]
    · simp
    · rcases List.mem_append.mp hq with z | z
      · exact h p' (List.mem_cons_of_mem _ hp') q z
      · rw [List.mem_singleton.mp z]
        intro z2
        exact nd.1 (by rw [z2]; exact List.mem_map_of_mem hp')
def dDisp (ps : List (Key × TED)) : TED := fun δ M k => ∀ p, M p = none → dPairs ps δ (updM M p (.dic [])) fun ds M1 => ∃ M2, M2 p = none ∧ M1 = updM M2 p (.dic []) ∧ k (.dic (ps.map (·.1)) ds) M2
theorem pd_dispF {keys : List (Option Expr)} {values : List Expr} {ps : List (Key × TED)} (h : PPsD W F0 X pos keys values ps) (nd : (ps.map (·.1)).Nodup) (hall : keys.all (·.isSome) = true := by rfl) (hl : keys.length = values.length := by rfl) (h0 : keys ≠ [] := by simp)
    (h15 : keys.length ≤ 15 := by decide) (h16 : ps.length ≤ 15 := by decide) : PED W F0 X (.Dict keys values pos) (dDisp ps) :=
  PE.wk (pe_locked (pe_disp h hall hl h0 h15)) fun σ H Q ⟨δ, F, M, k, hs, R, h, g⟩ p np => by
    have R1 : Rep W F F (updM M p (.dic [])) (upd H p (.dK [])) := R.here.newM np ⟨[], upd_same, rfl⟩
    refine pairs_of (hs.le R1.base) (R1.rebase R.base) (h p (R.fresh np).1) fun ds M1 ⟨M2, n2, e2, hk⟩ vs F2 H2 R2 r2 hlen => ?_
    subst e2
    obtain ⟨hF2, xs, ex, rx⟩ := R2.mo p _ updM_same
    cases rx
    have el : ((ps.map fun q => kV q.1).zip vs) = ((ps.map (·.1)).zip vs).map fun kv => (kV kv.1, kv.2) := by
      have e1 : (ps.map fun q => kV q.1) = (ps.map (·.1)).map kV := by rw [List.map_map]; rfl
      rw [e1, List.zip_map_left]
      rfl
    have ek : ((ps.map (·.1)).zip vs).map (·.1) = ps.map (·.1) := List.map_fst_zip (by simp [hlen])
    refine ⟨ex, (ps.map (·.1)).zip vs, el, by simp; omega, p, _, upd_same, trivial, fun od => ?_⟩
    rw [upd_upd, merge_nodup _ _ (by rw [ek]; exact nd) (by simp), List.nil_append]
    have R3 := (R2.rebase R1.base).write (a := p) (m := .dic []) (m' := .dic ((ps.map (·.1)).zip ds)) (o := .dK ((ps.map (·.1)).zip vs)) updM_same (fun _ z => by cases z) (fun _ z => by cases z) (by rw [ex]; trivial)
      ⟨vs, by rw [upd_same, List.map_fst_zip (by rw [r2.length]; simp [hlen])], by rw [List.map_snd_zip (by rw [r2.length]; simp [hlen])]; exact r2⟩
    have e7 : updM (updM M2 p (.dic [])) p (.dic ((ps.map (·.1)).zip ds)) = updM M2 p (.dic ((ps.map (·.1)).zip ds)) := by
      funext b
      unfold updM
      split <;> rfl
    rw [e7] at R3
    have ed : ((ps.map (·.1)).zip ds).map (·.1) = ps.map (·.1) := List.map_fst_zip (by rw [r2.length]; simp [hlen])
    have ed2 : ((ps.map (·.1)).zip ds).map (·.2) = ds := List.map_snd_zip (by rw [r2.length]; simp [hlen])
    obtain ⟨R4, r4⟩ := freezeD (od := od) (xs := vs) R3 updM_same (by rw [upd_same]; unfold zipV; rw [ed]) (by rw [ed2]; exact r2)
    rw [delM_upd n2, upd_upd] at R4
    unfold zipV at R4 r4
    rw [ed] at R4 r4
    rw [ed2] at r4
    exact g _ _ hk _ _ _ R4 r4
end
end DL
set_option maxHeartbeats 2000000
namespace DL
open PySem PySem.Spec L2
open PyProof.Rows (envOfC)

/-! ### defs whose caller is known to hold no guard (repr asks for it) -/
structure FnG (P : Program) (w : World) (K : PySem.W.Frag) (mg : Str → Option Value) (base : Heap) (CX : CXT) (k : Nat) (f : Addr) (fd : FuncData) (ps : List Str) (sp : Sp) : Prop where
  len : ∀ vs H Q E, sp vs H Q E → vs.length = ps.length
  go : ∀ {A : Around} {outer : List Env} {s : Shared} {H : Hp} {args : Args} {us : List Value} {vs : List V} {Q : VK} {E : XK}, Room k A → A.guards = some [] → Env0 P w K mg base A outer s H → BindsTo s fd args (ps.zip us) → Vals vs us → sp vs H Q E →
    codeAny (model P w) A (.call (.ref f) args) (CR CX outer P w H s Q E) s
theorem FnG.of {P : Program} {w : World} {K : PySem.W.Frag} {mg : Str → Option Value} {base : Heap} {CX : CXT} {k : Nat} {f : Addr} {fd : FuncData} {ps : List Str} {sp : Sp} (F : FnOk P w K mg base CX k f fd ps sp) : FnG P w K mg base CX k f fd ps sp :=
  ⟨F.len, fun hr _ e b r q => F.run _ _ _ _ _ _ _ _ _ hr e b r q⟩
section
variable {CX : CXT} {P : Program} {w : World} {K : PySem.W.Frag} {mg : Str → Option Value} {base : Heap} {k : Nat} {f : Addr} {x qual : Str} {st : Stmt} {fd : FuncData} {N ps : List Str} {sp : Sp}
theorem fnG_of (F : L2.Fun K x qual st f fd) (S : FnScope N ps (defScope st)) (len : ∀ vs H Q E, sp vs H Q E → vs.length = ps.length)
    (hbody : ∀ (cdv : Value) (A : Around) (outer : List Env) (s : Shared) (H : Hp) (vs : List V) (Q : VK) (E : XK), Room k (A.deeper (envOfC qual (defScope st) s.heap.objs.size f cdv)) → A.guards = some [] → sp vs H Q E →
      ∃ t, PSs (cxOf CX P w K mg base N qual (defScope st) f cdv A outer s H E) (defBody st) t ∧ t { nx := fun _ H' => Q .non H', rt := Q } (L2.start N vs) H) : FnG P w K mg base CX (k + 1) f fd ps sp := by
  obtain ⟨oc, od, kV, doc, pm, an, cdv, ct, osl, efd, lk, hcd⟩ := F.ex
  subst efd
  refine ⟨len, fun {A outer s H args us vs Q E} hr hg e0 hb rel hsp => ?_⟩
  have hK : K.In s.heap := e0.mod.kin.keeps fun b o z => (e0.bs b o z).1
  have hL : s.heap.NoLimit := e0.mod.nolimit.keeps fun b o z => (e0.bs b o z).1
  refine codeAny_call_function hr.depth (hK _ _ lk) rfl S.co S.gen rfl (PySem.W.codeRec_of hK hcd) (hb _ _ _ _ (wpAny_newFunctionEnv_cells S.kind (fun y hy => ?_) fun env ev s1 ic => ?_))
  · cases S.par y.1 (List.of_mem_zip (a := y.1) (b := y.2) hy).1 with
    | inl z => exact .inl z
    | inr z => exact .inr ⟨z, PySem.W.cellsFrom_some _ _ _ (.inl z)⟩
  subst ev
  obtain ⟨t, tp, tq⟩ := hbody cdv A outer s H vs Q E (hr.deeper _) hg hsp
  refine And.intro (hL.keeps ic.toInCall.keep) (codeAny_func ?_)
  have J := inv_start (CX := CX) (P := P) (w := w) (mg := mg) (base := base) (E := E) S hr.hd e0 (len _ _ _ _ hsp) rel ic
  refine wpAny_mono (tp.run [] s1 _ H _ J tq) (fun fl s' z => ?_) fun _ _ z => z
  have out : ∀ {τ : L2.St} {H' : Hp} {v : V} {u : Value}, Inv (cxOf CX P w K mg base N qual (defScope st) f cdv A outer s H E) [] τ H' s' → RelV v u → Q v H' → CE outer P w H s Q u s' :=
    fun {τ H' v u} I rv q => Exists.intro v (Exists.intro H' ⟨I.os, I.bare, I.base, I.hok, rv, q⟩)
  rcases fl with _ | _ | _ | u
  · obtain ⟨τ, H', I, q⟩ := z; exact out (v := .non) (u := .none) I rfl q
  · obtain ⟨_, _, _, q⟩ := z; exact q.elim
  · obtain ⟨_, _, _, q⟩ := z; exact q.elim
  · obtain ⟨v, τ, H', I, rv, q⟩ := z; exact out I rv q
end
section
variable {P : Program} {w : World} {K : PySem.W.Frag} {mg : Str → Option Value} {base : Heap} {x qual : Str} {st : Stmt} {f : Addr} {fd : FuncData} {N ps : List Str} {k : Nat} {W : Wd} {sp : SpD}
abbrev FnDG (P : Program) (w : World) (K : PySem.W.Frag) (mg : Str → Option Value) (base : Heap) (W : Wd) (k : Nat) (f : Addr) (fd : FuncData) (ps : List Str) (sp : SpD) : Prop := FnG P w K mg base CX0 k f fd ps (LSp W sp)
theorem okDG (F : L2.Fun K x qual st f fd) (S : FnScope N ps (defScope st)) (len : ∀ ds M k e, sp ds M k e → ds.length = ps.length)
    (hbody : ∀ (cdv : Value) (A : Around) (outer : List Env) (s : Shared) (H : Hp) (E : XK) (F0 : Hp) (ds : List D) (M : Sto) (kk : DKt) (e : XKD), Room k (A.deeper (PyProof.Rows.envOfC qual (defScope st) s.heap.objs.size f cdv)) → A.guards = some [] → sp ds M kk e →
      ∃ t : TSD, PSsD W F0 (cxOf CX0 P w K mg base N qual (defScope st) f cdv A outer s H E).nox (defBody st) t ∧ t { nx := fun _ M' => kk .non M', rt := kk } (startD N ds) M) : FnDG P w K mg base W (k + 1) f fd ps sp :=
  fnG_of F S (lsp_len len) fun cdv A outer s H vs Q E hr hg ⟨ds, F0, M, kk, e, r, R, q, g, gx⟩ => by
    obtain ⟨t, h1, h2⟩ := hbody cdv A outer s H E F0 ds M kk e hr hg q
    exact ⟨_, PSs.nox h1, startD N ds, F0, M, _, stt_start r, R, h2, fun δ' M' q' σ' F' H' R' s' => g _ _ q' _ F' H' R' rfl, g, fun _ _ z => z.elim, fun _ _ z => z.elim⟩
end
section
variable {W : Wd} {F0 : Hp} {X : Cx} {p pos : Pos} {a b c e : Expr} {es : List Expr} {ta te : TED} {t tk : TAD} {x : Str} {f : Addr} {fd : FuncData} {ps ks : List Str} {k : Nat} {sp : SpD} {kws : List Keyword} {kpos : Pos} {nm : Option Str} {CX : CXT} {spv : Sp} {E : XK} {us : List Value} {vs : List V}
theorem run_g {pins : List (Addr × Obj)} {σ : L2.St} {H : Hp} {s : Shared} {Q : VK} (F : FnG X.prog X.w X.K X.mg X.base CX k f fd ps spv) (hr : Room k X.A) (hgu : X.A.guards = some []) (hb : Binds X.K fd ps []) (hx : Passes CX X E)
    (I : Inv X pins σ H s) (r : Vals vs us) (h : spv vs H Q E) : wpAny (model X.prog X.w) X.A (call (.ref f) us) (EP X pins σ Q) X.xe s := by
  have hl : us.length = ps.length := r.length.symm.trans (F.len _ _ _ _ h)
  have b0 := hb s us I.kIn (by rw [List.append_nil]; exact hl)
  rw [List.append_nil] at b0
  refine wpAny_call (codeAny_mono (F.go hr hgu I.env0 b0 r h) fun o s' z => ?_)
  rcases o with er | fl
  · exact hx pins σ H s er s' I z
  · rcases fl with _ | _ | _ | u
    iterate 3 exact False.elim z
    exact I.after z
/-- f(e, ..) of a def that asks for no guards -/
theorem pd_callG (G : FnDG X.prog X.w X.K X.mg X.base W k f fd ps sp) (hr : Room k X.A) (hgu : X.A.guards = some []) (hm : X.mg x = some (.ref f)) (hk : PySem.W.keepIn X.K (.ref f) = true) (hb : Binds X.K fd ps [])
    (ha : PAD W F0 X (e :: es) t) (hg : Gl X x := by rfl) (hdb : (x == ("__debug__" : Str)) = false := by decide) (he : starEach (e :: es) X.env = (false, eval e X.env) :: starEach es X.env := by rfl) (hpl : (backTo pos (starEach es X.env)).any (·.1) = false := by rfl) :
    PED W F0 X (.Call (.Name x p) (e :: es) [] pos) (dCall sp X0 t) :=
  ⟨fun pins s σ H Q I h => wpAny_Call_Name_kw (ld_glob I hg hm (PySem.W.callWith_K (h₀ := X.base) I.ok.mod.kin hk (thn (ha.run pos pins s σ H _ I (tCall_of (E := E0) goX0 h)) fun us s1 ⟨vs, H1, I1, r, q⟩ => ⟨I1.kIn, by
    have q : LSp W sp (vs ++ []) H1 Q E0 := q
    rw [List.append_nil] at q
    exact run_g G hr hgu hb pass0 I1 r q⟩) he hpl) hdb)⟩
/-! ### f(k = v, ..) -/
def PKD (W : Wd) (F0 : Hp) (X : Cx) (kws : List Keyword) (t : TAD) : Prop := PK X kws (LA W F0 t)
theorem PK.wk {t t' : TA} (h : PK X kws t) (i : ∀ σ H Q, t' σ H Q → t σ H Q) : PK X kws t' := ⟨fun pos pins s σ H Q I q => h.run pos pins s σ H Q I (i _ _ _ q)⟩
theorem pkd_nil : PKD W F0 X [] dNil := PK.wk pk_nil fun σ H Q ⟨δ, F, M, k, hs, R, h, g⟩ => g _ _ h _ F H R.here rfl
theorem pkd_cons (he : PED W F0 X e ta) (hr : PKD W F0 X kws t) : PKD W F0 X (⟨nm, e, kpos⟩ :: kws) (dCons ta t) :=
  PK.wk (pk_cons he hr) fun σ H Q ⟨δ, F, M, k, hs, R, h, g⟩ =>
    ⟨δ, F, M, _, hs, R, h, fun d M1 h1 v F1 H1 R1 r1 =>
      ⟨δ, F1, M1, _, hs.le R1.base, R1.rebase R.base, h1, fun ds M2 h2 vs F2 H2 R2 r2 => g _ _ h2 _ F2 H2 (R2.rebase R1.base) ⟨v, vs, rfl, r1.le R2.base, r2⟩⟩⟩
/-- all parameters by name, in the order pm of the call -/
structure KwAll (fd : FuncData) (ps ks : List Str) (pm : List Value → List Value) (pmV : List V → List V) (pmD : List D → List D) : Prop where
  to : ∀ (s : Shared) (ws : List Value), ws.length = ks.length → BindsTo s fd ⟨[], ks.zip ws⟩ (ps.zip (pm ws))
  rel : ∀ {zs : List V} {ws : List Value}, Vals zs ws → Vals (pmV zs) (pm ws)
  rd : ∀ {F : Hp} {ds : List D} {zs : List V}, Rds F ds zs → Rds F (pmD ds) (pmV zs)
  len : ∀ zs : List V, (pmV zs).length = ps.length → zs.length = ks.length
def dCallK (sp : SpD) (pmD : List D → List D) (e : XKD) (t : TAD) : TED := fun δ M k => t δ M fun ds M1 => sp (pmD ds) M1 k e
variable {pm : List Value → List Value} {pmV : List V → List V} {pmD : List D → List D}
theorem run_k {pins : List (Addr × Obj)} {σ : L2.St} {H : Hp} {s : Shared} {Q : VK} (F : FnOk X.prog X.w X.K X.mg X.base CX k f fd ps spv) (hr : Room k X.A) (hb : KwAll fd ps ks pm pmV pmD) (hx : PassesAt CX X σ E)
    (I : Inv X pins σ H s) (r : Vals vs us) (h : spv (pmV vs) H Q E) : wpAny (model X.prog X.w) X.A (call (.ref f) [] (ks.zip us)) (EP X pins σ Q) X.xe s := by
  have b0 := hb.to s us (r.length.symm.trans (hb.len _ (F.len _ _ _ _ h)))
  refine wpAny_call (codeAny_mono (F.run _ _ _ _ _ _ _ _ _ hr I.env0 b0 (hb.rel r) h) fun o s' z => ?_)
  rcases o with er | fl
  · exact hx pins H s er s' I z
  · rcases fl with _ | _ | _ | u
    iterate 3 exact False.elim z
    exact I.after z
def dCallKS (sp : SpD) (pmD : List D → List D) (e : Sl → XKD) (t : TAD) : TED := fun δ M k => t δ M fun ds M1 => sp (pmD ds) M1 k (e δ)
theorem pd_callK_ {CX : CXT} (E : L2.St → XK) (eS : Sl → XKD) (F : FnOk X.prog X.w X.K X.mg X.base CX k f fd ps (LSp W sp)) (gx : ∀ σ δ F, Le F0 F → Stt F σ δ → GoX W F (eS δ) (E σ)) (hx : ∀ σ, PassesAt CX X σ (E σ)) (hr : Room k X.A) (hb : KwAll fd ps ks pm pmV pmD) (hm : X.mg x = some (.ref f)) (hk : PySem.W.keepIn X.K (.ref f) = true)
    (ha : PKD W F0 X kws t) (hg : Gl X x) (hall : (backToKw pos (keywordEach kws X.env)).all (·.1.isSome) = true) (hks : (backToKw pos (keywordEach kws X.env)).filterMap (·.1) = ks)
    (hpl : ((backTo pos (starEach [] X.env)).any (·.1) || (backToKw pos (keywordEach kws X.env)).any (·.1.isNone)) = false) (hdb : (x == ("__debug__" : Str)) = false) :
    PED W F0 X (.Call (.Name x p) [] kws pos) (dCallKS sp pmD eS t) :=
  ⟨fun pins s σ H Q I ⟨δ, F1, M, kk, hs, R, h, g⟩ => wpAny_Call_Name_kw (ld_glob I hg hm (PySem.W.callWith_KW0 (h₀ := X.base) I.ok.mod.kin hk hall (thn (ha.run pos pins s σ H (fun vs H1 => LSp W sp (pmV vs) H1 Q (E σ)) I
    ⟨δ, F1, M, _, hs, R, h, fun ds M1 h1 vs F2 H1 R1 r1 => ⟨pmD ds, F2, M1, kk, eS δ, hb.rd r1, R1.here, h1, g.mono R1.base, (gx σ δ F1 R.base hs).mono R1.base⟩⟩) fun us s1 ⟨vs, H1, I1, r, q⟩ => ⟨I1.kIn, by
      rw [hks]
      exact run_k F hr hb (hx σ) I1 r q⟩) hpl) hdb)⟩
theorem pd_callK (G : FnD X.prog X.w X.K X.mg X.base W k f fd ps sp) (hr : Room k X.A) (hb : KwAll fd ps ks pm pmV pmD) (hm : X.mg x = some (.ref f)) (hk : PySem.W.keepIn X.K (.ref f) = true)
    (ha : PKD W F0 X kws t) (hg : Gl X x := by rfl) (hall : (backToKw pos (keywordEach kws X.env)).all (·.1.isSome) = true := by rfl) (hks : (backToKw pos (keywordEach kws X.env)).filterMap (·.1) = ks := by rfl)
    (hpl : ((backTo pos (starEach [] X.env)).any (·.1) || (backToKw pos (keywordEach kws X.env)).any (·.1.isNone)) = false := by rfl) (hdb : (x == ("__debug__" : Str)) = false := by decide) :
    PED W F0 X (.Call (.Name x p) [] kws pos) (dCallK sp pmD X0 t) := pd_callK_ (fun _ => E0) (fun _ => X0) G (fun _ _ _ _ _ => goX0) (fun σ pins H s e s' I c => pass0 pins σ H s e s' I c) hr hb hm hk ha hg hall hks hpl hdb
theorem pd_callKN (G : FnDX X.prog X.w X.K X.mg X.base W k f fd ps sp) (hr : Room k X.A) (hb : KwAll fd ps ks pm pmV pmD) (hm : X.mg x = some (.ref f)) (hk : PySem.W.keepIn X.K (.ref f) = true)
    (ha : PKD W F0 X kws t) (hg : Gl X x := by rfl) (hall : (backToKw pos (keywordEach kws X.env)).all (·.1.isSome) = true := by rfl) (hks : (backToKw pos (keywordEach kws X.env)).filterMap (·.1) = ks := by rfl)
    (hpl : ((backTo pos (starEach [] X.env)).any (·.1) || (backToKw pos (keywordEach kws X.env)).any (·.1.isNone)) = false := by rfl) (hdb : (x == ("__debug__" : Str)) = false := by decide) :
    PED W F0 X (.Call (.Name x p) [] kws pos) (dCallK sp pmD X0 t) := pd_callK_ (fun _ => E0) (fun _ => X0) G (fun _ _ _ _ _ => goX0) (fun σ pins H s e s' I c => passN pins σ H s e s' I c) hr hb hm hk ha hg hall hks hpl hdb
theorem pd_callKX {eS : Sl → XKD} (hR : RzD W F0 X eS) (G : FnDX X.prog X.w X.K X.mg X.base W k f fd ps sp) (hr : Room k X.A) (hb : KwAll fd ps ks pm pmV pmD) (hm : X.mg x = some (.ref f)) (hk : PySem.W.keepIn X.K (.ref f) = true)
    (ha : PKD W F0 X kws t) (hg : Gl X x := by rfl) (hall : (backToKw pos (keywordEach kws X.env)).all (·.1.isSome) = true := by rfl) (hks : (backToKw pos (keywordEach kws X.env)).filterMap (·.1) = ks := by rfl)
    (hpl : ((backTo pos (starEach [] X.env)).any (·.1) || (backToKw pos (keywordEach kws X.env)).any (·.1.isNone)) = false := by rfl) (hdb : (x == ("__debug__" : Str)) = false := by decide) :
    PED W F0 X (.Call (.Name x p) [] kws pos) (dCallKS sp pmD eS t) := by
  obtain ⟨E, tk, gx⟩ := hR
  exact pd_callK_ E eS G gx (fun σ pins H s e s' I c => tk e s' (L2N.XE.of_call I (fun _ _ _ h => h) c)) hr hb hm hk ha hg hall hks hpl hdb
end
end DL
set_option maxHeartbeats 2000000
namespace DL
open PySem PySem.Spec L2

/-! ### own exception classes under Exception whose __init__ stores one field -/
abbrev bmE : List Value := [.type "Exception", .type "BaseException", .type "object"]
structure OX (K : PySem.W.Frag) (C : Addr) : Prop where
  q : PySem.W.excInitIn K C bmE "Exception.__new__" = true
  over : PySem.W.excOver K C bmE = true
  hd : (PySem.W.clsIn K C).any (·.hasDict) = true
  sa : PySem.W.findIn K (.ref C) "__setattr__" = some (some (.builtin "object.__setattr__"))
  exC : PySem.W.subIn K (.ref C) (.type "BaseException") = some true
  tyC : PySem.W.typeIn K (.ref C) = some (.type "type")
  kC : PySem.W.keepIn K (.ref C) = true
section
open PySem.W Builtin Builtin.ObjectAttr
variable {prog : Program} {w : World} {A : Around} {E : Value → Shared → Prop} {R : Result → Shared → Prop} {hp : Heap} {g : Array GenState} {d : Drawn} {t : Nat} {os : OsState}
theorem osaE {K : W.Frag} {name : Str} {tk : Tok} {v : Value} {x C : Addr} {fv : Array Value} (T : OX K C) (X : K.In hp) (hx : hp.get? x = some { cls := .ref C, data := .fields fv }) (ht : takerIn K C name = some none)
    (hq : ∀ h' tk' dx, (∀ b o, b ≠ x → hp.get? b = some o → h'.get? b = some o) → hp.objs.size ≤ dx → dx ≠ x → h'.get? x = some { cls := .ref C, dict := some dx, data := .fields fv } →
      h'.Ns1 dx (fun y => if y = name then some v else none) → R (.ok (.ret .none)) ⟨h', g, d, tk', os⟩) :
    codeAny (model prog w) A (.call (.builtin "object.__setattr__") ⟨[.ref x, .str name tk, v], []⟩) R ⟨hp, g, d, t, os⟩ := by
  have ne : x ≠ hp.objs.size := Nat.ne_of_lt (Heap.lt_size hx)
  obtain ⟨cd, hcd, hh⟩ := any_some T.hd
  have lk : W.Looks (model prog w) hp (classData C) cd := W.looks_clsIn X hcd
  refine osa_openX F.store_Exception X (od := none) ⟨hx, rfl, rfl, trivial⟩ T.over ht fun b => ?_
  show wpAny _ _ (storeInOwnDict (.ref x) (.ref C) (.str name tk) name v b) _ _ _
  obtain ⟨c1, c2, c3, c4, c5, c6, c7, c8, c9, c10, c11⟩ := cd
  dsimp only at hh
  subst hh
  unfold storeInOwnDict ownDictForStores
  repeat (first | with_reducible refine PX.store_in_new ?_ ?_ | with_reducible refine wpAny_loadPart_at hx ?_ | with_reducible refine lk.at ?_ | wp_step)
  · exact ⟨_, #[], _, (Heap.get?_update_ne _ _ _ _ ne.symm).trans (Heap.get?_push_at rfl rfl), rfl, fun e z => absurd z (by simp), fun _ => rfl⟩
  · intro h' tk' hn hs
    have hx1 : (hp.push { cls := .type "dict", data := .dict #[] }).get? x = some { cls := .ref C, data := .fields fv } := Heap.get?_push_of_some _ hx
    refine hq h' tk' hp.objs.size (fun b o hb ho => (hs.2 b (Nat.ne_of_lt (Heap.lt_size ho))).trans ((Heap.get?_update_ne _ _ _ _ hb).trans (Heap.get?_push_of_some _ ho))) (Nat.le_refl _) ne.symm ((hs.2 x ne).trans (Heap.get?_update_self _ hx1 rfl)) hn
end
section
variable {X : Cx} {pins : List (Addr × Obj)} {σ : L2.St} {H : Hp} {s : Shared} {a C dx : Addr} {f : Str} {y : V} {u : Value} {Q : Unit → Shared → Prop} {E : Value → Shared → Prop} {A : Around}
/-- self.f = y, the only one -/
theorem oxNew (T : OX X.K C) (I : Inv X pins σ H s) (e : H a = some (exo a C none)) (ht : PySem.W.takerIn X.K C f = some none) (ry : RelV y u)
    (h : ∀ dx s', H dx = none → dx ≠ a → Inv X pins σ (upd (upd H dx (exd dx [(f, y)])) a (exo a C (some dx))) s' → Q () s') : wpAny (model X.prog X.w) A (setAttr (.ref a) f u) Q E s := by
  obtain ⟨t1, ho⟩ := exo_at I.hok e
  obtain ⟨hp, g, d, t, os⟩ := s
  refine PySem.W.set_plain I.kIn (od := none) ⟨ho, rfl, rfl, trivial⟩ T.sa (osaE T I.kIn ho ht fun h' tk' dx k dn dne hx hn => ?_)
  have fr : H dx = none := I.hok.fresh dn
  have n1 : ∀ {b : Addr} {o : Obj}, hp.get? b = some o → b ≠ dx := fun q => Nat.ne_of_lt (Nat.lt_of_lt_of_le (Heap.lt_size q) dn)
  have n2 : ∀ {b : Addr}, H b = none → b ≠ a := fun n z => by subst z; rw [e] at n; cases n
  have mv : ∀ {b : Addr} {o : HO}, b ≠ a → H b = some o → upd (upd H dx (exd dx [(f, y)])) a (exo a C (some dx)) b = some o := fun hb z => by rw [upd_ne hb, upd_ne (ne_of_none z fr)]; exact z
  refine h dx _ fr dne (I.un (t' := tk') ⟨fun b o q n _ _ => k b o (n2 n) q, fun b o q n _ _ => ⟨o.slots, k b o (n2 n) q⟩, fun b o q n _ => by rw [upd_ne (n2 n), upd_ne (n1 q)]; exact n, fun b o q _ => ?_, fun b xs q => mv (at_ne e q exo_tup) q, fun b o v q => mv (at_ne e q exo_frz) q,
    fun b ps q => ⟨#[], by rw [mv (at_ne e q exo_tbl) q]; simp⟩⟩ fun b o q => ?_)
  · by_cases hb : b = a
    · subst hb; exact ⟨_, hx⟩
    · exact ⟨o, k b o hb q⟩
  · by_cases hb : b = a
    · subst hb
      rw [upd_same] at q; cases q
      exact exo_ok hx
    · rw [upd_ne hb] at q
      by_cases hd : b = dx
      · subst hd
        rw [upd_same] at q; cases q
        exact exd_ok hn (relO_put (fs := []) ry fun g => trivial)
      · rw [upd_ne hd] at q
        refine (I.hok b o q).stay (fun c v hc z => k c v ?_ z) (fun c hc => mv (at_ne e hc exo_own) hc) fun c xs hc => mv (at_ne e hc exo_tup) hc
        rcases hc with hc | hc
        · subst hc; exact hb
        · exact at_ne e hc exo_own
/-- self.f = e in such an __init__ -/
def tOxs (K : PySem.W.Frag) (f : Str) (to te : TE) : TS := fun D σ H => te σ H fun y H1 => to σ H1 fun x H2 => ∃ a C : Addr, x = .ref a ∧ OX K C ∧ PySem.W.takerIn K C f = some none ∧
  H2 a = some (exo a C none) ∧ ∀ dx, H2 dx = none → dx ≠ a → D.nx σ (upd (upd H2 dx (exd dx [(f, y)])) a (exo a C (some dx)))
theorem ps_oxs {o e : Expr} {to te : TE} {p' pos : Pos} (ho : PE X o to) (he : PE X e te) (hs : swapsWith e (some (.Attribute o f p')) pos.line X.env = pure false := by rfl) : PS X (.Assign [.Attribute o f p'] e pos) (tOxs X.K f to te) :=
  ⟨fun pins s σ H D I h => plainObj_wpAny_Assign_Attribute (thn (he.run pins s σ H _ I h) fun v s1 ⟨y, H1, I1, r1, q1⟩ => thn (ho.run pins s1 σ H1 _ I1 q1) fun u s2 ⟨x, H2, I2, r2, a, C, ex, T, hno, ea, q⟩ => by
    subst ex
    obtain rfl : u = Value.ref a := r2
    exact oxNew T I2 ea hno r1 fun dx s' n ne J => ⟨σ, _, J, q dx n ne⟩) hs⟩
/-- what __init__ of such a class keeps -/
def spInit (K : PySem.W.Frag) (f : Str) : Sp := fun vs H Q _ => ∃ (a C : Addr) (y : V), vs = [.ref a, y] ∧ OX K C ∧ PySem.W.takerIn K C f = some none ∧ H a = some (exo a C none) ∧ ∀ dx, H dx = none → dx ≠ a → Q .non (upd (upd H dx (exd dx [(f, y)])) a (exo a C (some dx)))
theorem ok_init {P : Program} {w : World} {K : PySem.W.Frag} {mg : Str → Option Value} {base : Heap} {k : Nat} {qual : Str} {st : Stmt} {fI : Addr} {fd : FuncData} {p1 p2 p3 p4 : Pos} {x1 x2 : Str}
    (F : L2.Fun K "__init__" qual st fI fd) (S : FnScope [x1, x2] [x1, x2] (defScope st)) (hb : defBody st = [.Assign [.Attribute (.Name x1 p1) f p2] (.Name x2 p3) p4]) (v1 : Vis (defScope st) x1 := by exact Or.inl rfl) (v2 : Vis (defScope st) x2 := by exact Or.inl rfl)
    (d1 : (x1 == ("__debug__" : Str)) = false := by decide) (d2 : (x1 == ("__classdict__" : Str)) = false := by decide) (d3 : (x2 == ("__debug__" : Str)) = false := by decide) (d4 : (x2 == ("__classdict__" : Str)) = false := by decide) :
    FnOk P w K mg base CX0 (k + 1) fI fd [x1, x2] (spInit K f) := F.ok S (fun vs H Q E ⟨a, C, y, e, _⟩ => by rw [e]; rfl) fun cdv A outer s H vs Q E hr ⟨a, C, y, e, T, ht, ea, q⟩ => by
  subst e
  refine ⟨_, by rw [hb]; exact pss_one (ps_oxs (pe_var (i := 0) rfl v1 d1 d2) (pe_var (i := 1) rfl v2 d3 d4)), ?_⟩
  exact ⟨y, rfl, .ref a, rfl, a, C, rfl, T, ht, ea, fun dx n ne => q dx n ne⟩
/-- C(e) -/
theorem pmk_ox {CX : CXT} {x : Str} {C fI : Addr} {k : Nat} {fd : FuncData} {ps : List Str} {sp : Sp} {e : Expr} {es : List Expr} {ta : TA} {p pos : Pos} (T : OX X.K C) (iC : PySem.W.findIn X.K (.ref C) "__init__" = some (some (.ref fI))) (tI : PySem.W.typeIn X.K (.ref fI) = some (.type "function"))
    (F1 : FnOk X.prog X.w X.K X.mg X.base CX k fI fd ps sp) (hr : Room (k + 1) X.A) (hb : Binds X.K fd ps []) (hx : Passes CX X (fun _ _ _ => False)) (hg : Gl X x) (hm : X.mg x = some (.ref C)) (ha : PA X (e :: es) ta)
    (hdb : (x == ("__debug__" : Str)) = false := by decide) (he : starEach (e :: es) X.env = (false, eval e X.env) :: starEach es X.env := by rfl) (hpl : (backTo pos (starEach es X.env)).any (·.1) = false := by rfl) :
    L2N.PMk X (.Call (.Name x p) (e :: es) [] pos) (tMkO C sp [] ta) := by
  intro pins s σ H Q I h
  refine wpAny_Call_Name_kw (ld_glob I hg hm (PySem.W.callWith_K (h₀ := X.base) I.ok.mod.kin T.kC (thn (ha.run pos pins s σ H _ I h) fun us s1 ⟨vs, H1, I1, r1, hz, q1⟩ => And.intro I1.kIn ?_) he hpl) hdb)
  refine (show wpAny _ _ (call (.ref C) us) _ _ _ from ?_)
  obtain ⟨c1, c2, c3, c4, c5, c6, c7, c8, c9, c10, c11, c12, c13, c14, c15, c16, hC, hT⟩ := PySem.W.excInit_of I1.kIn T.q
  obtain ⟨hp, g, dr, tk, os⟩ := s1
  generalize ea : hp.objs.size + 1 = a
  have ha1 : hp.objs.size ≤ a := by omega
  have kk : ∀ b o, hp.get? b = some o → ((hp.push (PySem.W.kdv_tup us)).push (PySem.PX.excO C hp.objs.size)).get? b = some o := fun b o z => Heap.get?_push_of_some _ (Heap.get?_push_of_some _ z)
  have hget : ((hp.push (PySem.W.kdv_tup us)).push (PySem.PX.excO C hp.objs.size)).get? a = some (PySem.PX.excO C hp.objs.size) := by
    subst ea
    heap_get
  have hq := q1 a (I1.hok.fresh ha1)
  have I2 : Inv X pins σ (upd H1 a (exo a C none)) ⟨(hp.push (PySem.W.kdv_tup us)).push (PySem.PX.excO C hp.objs.size), g, dr, tk, os⟩ := I1.laid (t' := tk) (o := exo a C none) kk ha1 (exo_ok hget)
  have r2 : Vals (V.ref a :: (vs ++ [])) (Value.ref a :: (us ++ [])) := .cons rfl (r1.append .nil)
  have hl : ((Value.ref a :: us) ++ []).length = ps.length := r2.length.symm.trans (F1.len _ _ _ _ hq)
  have hus : us.length ≤ sizeLine := by
    rw [← Paired.length r1, sizeLine_eq]
    omega
  have run := F1.run _ X.stack _ _ ⟨Value.ref a :: us, []⟩ _ _ _ (fun _ _ _ => False) (hr.make C us []) (I2.env0.make C us []) (hb _ (Value.ref a :: us) I2.kIn hl) r2 hq
  subst ea
  refine wpAny_call (PySem.PX.call_own F.excBase_Exception hT hC (PySem.W.looks_findIn I1.kIn iC) (fun self => PySem.W.bind_fn I1.kIn self tI) hus (codeAny_mono run fun r s' z => ?_))
  rcases r with er | fl
  · exact hx pins σ _ _ er s' I2 z
  · rcases fl with _ | _ | _ | u
    iterate 3 exact False.elim z
    obtain ⟨v, H2, z1, z2, z3, z4, rv, ev, d, fs, y1, y2, y3, y4⟩ := z
    subst ev
    obtain ⟨h2, g2, d2, t2, os'⟩ := s'
    obtain ⟨t0, G, J, kG, ge, hoe, na⟩ := mk_end0 (d2 := d2) (t2 := t2) I1 ha1 kk z3 z4 z1 z2 y1 y2 y3
    exact ⟨rv, _, _, _, ⟨G, g2, d2, t2, os'⟩, _, .ref C, some d, rfl, J, kG, ge, hoe, ⟨rfl, rfl, fun vs z => by cases z; rfl⟩, rfl, rfl, na, rfl, z2, raises_own T.exC T.tyC, y4⟩
end
/-! ### raise C(e) -/
def dRaise (eD : Sl → XKD) (C : Addr) (f : Str) (te : TED) : TSD := fun _ δ M => te δ M fun x M1 => eD δ C [(f, x)] M1
section
variable {W : Wd} {F0 : Hp} {X : Cx} {x f : Str} {C fI : Addr} {k : Nat} {fd : FuncData} {ps : List Str} {e : Expr} {te : TED} {p pos pos2 : Pos} {eD : Sl → XKD}
theorem psd_raise (hc : X.calm = true) (hR : RzD W F0 X eD) (T : OX X.K C) (ht : PySem.W.takerIn X.K C f = some none) (iC : PySem.W.findIn X.K (.ref C) "__init__" = some (some (.ref fI))) (tI : PySem.W.typeIn X.K (.ref fI) = some (.type "function"))
    (F1 : FnOk X.prog X.w X.K X.mg X.base CX0 k fI fd ps (spInit X.K f)) (hr : Room (k + 1) X.A) (hb : Binds X.K fd ps []) (hm : X.mg x = some (.ref C)) (he : PED W F0 X e te) (hg : Gl X x := by rfl)
    (hdb : (x == ("__debug__" : Str)) = false := by decide) (hst : starEach [e] X.env = (false, eval e X.env) :: starEach [] X.env := by rfl) (hpl : (backTo pos (starEach [] X.env)).any (·.1) = false := by rfl) :
    PSD W F0 X (.Raise (some (.Call (.Name x p) [e] [] pos)) none pos2) (dRaise eD C f te) := by
  obtain ⟨E, tk, gx⟩ := hR
  refine PS.wk (L2N.ps_raise hc tk (pmk_ox T iC tI F1 hr hb pass0 hg hm (pa_cons he pa_nil hst) hdb hst hpl)) fun Dn σ H ⟨δ, F, M, d, hs, R, h, gd⟩ => ?_
  refine ⟨δ, F, M, _, hs, R, h, fun y M1 h1 v F1 H1 R1 r1 => ⟨by simp, fun a na => ⟨a, C, v, rfl, T, ht, upd_same, fun dx n ne => ⟨rfl, dx, [(f, v)], upd_same, by rw [upd_ne ne, upd_same], ?_, ?_⟩⟩⟩⟩
  · rw [upd_ne ne] at n; exact n
  · rw [upd_ne ne] at n
    have eH : upd (del (upd (upd (upd H1 a (exo a C none)) dx (exd dx [(f, v)])) a (exo a C (some dx))) a) dx (.xd [(f, v)]) = upd H1 dx (.xd [(f, v)]) := by
      funext b
      by_cases h1 : b = dx
      · subst h1; rw [upd_same, upd_same]
      · rw [upd_ne h1, upd_ne h1]
        by_cases h2 : b = a
        · subst h2; rw [del_same, na]
        · rw [del_ne h2, upd_ne h2, upd_ne h1, upd_ne h2]
    rw [eH]
    exact gx σ δ F R.base hs C [(f, y)] M1 h1 dx [v] F1 _ (R1.junk n) upd_same ⟨v, [], rfl, r1, rfl⟩
end
end DL
set_option maxHeartbeats 4000000
namespace DL
open PySem PySem.Spec L2 HotX
open PyProof.Rows (IsTup IsTupIter)

/-! ### the end of a walk while an exception is handled -/
section
variable {prog : Program} {w : World} {A : Around} {s : Shared}
theorem stop_hot {α : Type} {x1 : Addr} {Q : α → Shared → Prop} {E : Value → Shared → Prop} (hot : HotAt A x1 s.heap)
    (h : ∀ h' a, (∀ b o, s.heap.get? b = some o → h'.get? b = some o) → (∃ o, h'.get? a = some o ∧ o.cls = .type "StopIteration") → E (.ref a) { s with heap := h' }) :
    wpAny (model prog w) A (newExc (.type "StopIteration") [] >>= fun e => (raiseNew e : Sem α)) Q E s := by
  obtain ⟨hh, o1, vs1, h1, d1, c1⟩ := hot
  refine wpAny_bind ?_
  simp only [newExc, newTuple]
  refine wpAny_bind (wpAny_newObj_type (wpAny_bind (m := firstArgMember _ _) (wpAny_of_eq (a := Value.none) (by first | rfl | (simp only [firstArgMember]; rfl)) (wpAny_newObj_type ?_ (by size_fits)))) (by size_fits))
  refine raiseNew_hot ⟨hh, o1, vs1, Heap.get?_push_of_some _ (Heap.get?_push_of_some _ h1), d1, c1⟩ (Nat.ne_of_lt (Heap.lt_size (Heap.get?_push_of_some _ h1))) (Heap.get?_push_size _ rfl) rfl (by first | (simp; done) | (simp; omega) | (simp only [Array.size_append]; simp; omega))
    (h _ _ (fun b o e => ?_) ⟨_, Heap.get?_update_self _ (Heap.get?_push_size _ rfl) rfl, rfl⟩)
  rw [Heap.get?_update_other _ _ (Nat.ne_of_gt (Heap.lt_size (Heap.get?_push_of_some _ e)))]
  exact Heap.get?_push_of_some _ (Heap.get?_push_of_some _ e)
theorem hot_upd {x1 it : Addr} {f : Obj → Obj} (hot : HotAt A x1 s.heap) (ne : x1 ≠ it) : HotAt A x1 (s.heap.update it f) := by
  obtain ⟨hh, o1, vs1, h1, r⟩ := hot
  exact ⟨hh, o1, vs1, by rw [Heap.get?_update_other _ _ (Ne.symm ne)]; exact h1, r⟩
theorem list_end_hot {it l x1 : Addr} {i : Nat} {items : Array Value} {Q : Option Value → Shared → Prop} {E : Value → Shared → Prop} (hot : HotAt A x1 s.heap) (ne : x1 ≠ it) (hit : s.heap.IsListIter it l i) (hl : s.heap.IsList l items) (hx : items[i]? = none)
    (hQ : ∀ h', Heap.ExtBut it s.heap h' → Q none { s with heap := h' }) : wpAny (model prog w) A (pyNext (.ref it)) Q E s := by
  obtain ⟨⟨oi, hio, hic, hid⟩, ol, hlo, _, nl, hld⟩ := And.intro hit hl
  unfold pyNext
  refine wpAny_bind (wpAny_attempt (wpAny_callSpecial?_slot (name := Str.ofString "__next__") hit.typeIs slot_listiter_next (wpAny_call_entry slot_listiter_next hit.typeIs entry_listiter_next ?_ (args_listiter_next _))))
  refine (show wpAny _ _ (field (.ref it) 0 >>= _) _ _ s from wpAny_bind (wpAny_field hio hid (x := .ref l) rfl ?_))
  refine (show wpAny _ _ (if (Value.ref l == Value.none) = true then _ else _) _ _ s from ?_)
  rw [if_neg (show ¬ ((Value.ref l == Value.none) = true) by simp)]
  refine (show wpAny _ _ (field (.ref it) 1 >>= _) _ _ s from wpAny_bind (wpAny_field hio hid (x := .int i 0) rfl ?_))
  refine (show wpAny _ _ (seqItems? (.ref l) >>= _) _ _ s from wpAny_bind (wpAny_seqItems hlo hld ?_))
  simp only [hx, Int.toNat_natCast]
  refine wpAny_bind (wpAny_rule (wpAny_bind (wpAny_setField hio hid (by simp) (stop_hot (s := { s with heap := _ }) (x1 := x1) (hot_upd (s := s) hot ne) fun h' a k ⟨o, ho, hc⟩ => ?_))))
  exact wpAny_bind (wpAny_isInstance (T := "StopIteration") (b := true) ⟨o, ho, hc⟩ isSubtype_stop (wpAny_pure (hQ _ fun b o hb e => k b o (by rw [Heap.get?_update_other _ _ (Ne.symm hb)]; exact e))))
theorem tup_end_hot {it l x1 : Addr} {i : Nat} {items : Array Value} {Q : Option Value → Shared → Prop} {E : Value → Shared → Prop} (hot : HotAt A x1 s.heap) (ne : x1 ≠ it) (hit : IsTupIter s.heap it l i) (hl : IsTup s.heap l items) (hx : items[i]? = none)
    (hQ : ∀ h', Heap.ExtBut it s.heap h' → Q none { s with heap := h' }) : wpAny (model prog w) A (pyNext (.ref it)) Q E s := by
  obtain ⟨⟨oi, hio, hic, hid⟩, ol, hlo, _, nl, hld⟩ := And.intro hit hl
  unfold pyNext
  refine wpAny_bind (wpAny_attempt (wpAny_callSpecial?_slot (name := Str.ofString "__next__") hit.typeIs PyProof.Rows.slot_tupleiter_next (wpAny_call_entry PyProof.Rows.slot_tupleiter_next hit.typeIs PyProof.Rows.entry_tupleiter_next ?_ (PyProof.Rows.args_tupleiter_next _))))
  refine (show wpAny _ _ (field (.ref it) 0 >>= _) _ _ s from wpAny_bind (wpAny_field hio hid (x := .ref l) rfl ?_))
  refine (show wpAny _ _ (if (Value.ref l == Value.none) = true then _ else _) _ _ s from ?_)
  rw [if_neg (show ¬ ((Value.ref l == Value.none) = true) by simp)]
  refine (show wpAny _ _ (field (.ref it) 1 >>= _) _ _ s from wpAny_bind (wpAny_field hio hid (x := .int i 0) rfl ?_))
  refine (show wpAny _ _ (seqItems? (.ref l) >>= _) _ _ s from wpAny_bind (wpAny_seqItems hlo hld ?_))
  simp only [hx, Int.toNat_natCast]
  refine wpAny_bind (wpAny_rule (wpAny_bind (wpAny_setField hio hid (by simp) (stop_hot (s := { s with heap := _ }) (x1 := x1) (hot_upd (s := s) hot ne) fun h' a k ⟨o, ho, hc⟩ => ?_))))
  exact wpAny_bind (wpAny_isInstance (T := "StopIteration") (b := true) ⟨o, ho, hc⟩ isSubtype_stop (wpAny_pure (hQ _ fun b o hb e => k b o (by rw [Heap.get?_update_other _ _ (Ne.symm hb)]; exact e))))
/-- a, b = t -/
theorem asg_tup_hot {x1 : Addr} {env : Env} {elts : List Expr} {kx : Nat} {pos : Pos} {t : Addr} {items : Array Value} {Q : Unit → Shared → Prop} {E : Value → Shared → Prop} (hot : HotAt A x1 s.heap) (ht : IsTup s.heap t items) (hn : (assignEach elts env).length = items.size)
    (hst : (assignEach elts env).findIdx? (·.1) = none) (h : ∀ h', Heap.ExtBut s.heap.objs.size s.heap h' → wpAny (model prog w) A (assignInOrder ((assignEach elts env).map (·.2)) items.toList) Q E { s with heap := h' }) :
    wpAny (model prog w) A (assign (.Tuple elts kx pos) env (.ref t)) Q E s := by
  have lt : t ≠ s.heap.objs.size := let ⟨o, ho, _⟩ := ht; Nat.ne_of_lt (Heap.lt_size ho)
  have lx : x1 ≠ s.heap.objs.size := let ⟨_, o, _, ho, _⟩ := hot; Nat.ne_of_lt (Heap.lt_size ho)
  rw [PyProof.Rows.assign_Tuple]
  refine wpAny_bind (wpAny_standAt ?_)
  unfold unpack
  rw [hn, hst]
  refine wpAny_bind (wpAny_holding ?_)
  unfold unpackItems
  refine wpAny_bind ?_
  unfold notIterableAtAll
  refine wpAny_bind (wpAny_specialOf ht.typeIs PyProof.Rows.slot_tuple_iter.lookup (wpAny_pure ?_))
  simp only [Bool.false_eq_true, if_false]
  refine wpAny_bind (wpAny_holding (PyProof.Rows.iter_tuple ht (wpAny_bind (wpAny_holding (PyProof.Rows.draw_tuple lt items.size 0 _ _ ⟨_, Heap.get?_push_size _ rfl, rfl, rfl⟩ (ht.push _) (by omega) fun h1 it1 b1 => ?_)))))
  rw [List.drop_zero, List.take_of_length_le (show items.toList.length ≤ items.size by simp), if_neg (by simp)]
  have hot1 : HotAt A x1 h1 := by
    obtain ⟨hh, o1, vs1, e1, r⟩ := hot
    exact ⟨hh, o1, vs1, (b1.2 x1 lx).trans (Heap.get?_push_of_some _ e1), r⟩
  refine wpAny_bind (wpAny_holding (tup_end_hot (s := { s with heap := h1 }) hot1 lx it1 ((ht.push _).extBut b1.extBut lt) (by simp) fun h2 b2 => ?_))
  simp only [Option.isSome_none, Bool.false_eq_true, if_false]
  exact wpAny_pure (h h2 fun b o hb e => b2 b o hb (b1.extBut b o hb (Heap.get?_push_of_some _ e)))
end

/-! ### contexts where an exception is handled whose context is None -/
def HotB (X : Cx) : Prop := ∃ p : Addr × Obj, L2H.Hot1 X.A p ∧ p.1 ∉ frs X.stack ∧ ∀ (pins : List (Addr × Obj)) (σ : L2.St) (H : Hp) (s : Shared), Inv X pins σ H s → s.heap.get? p.1 = some p.2 ∧ H p.1 = none ∧ ∀ b, FpOk X pins H b → p.1 ≠ b
theorem HotB.at {X : Cx} {pins : List (Addr × Obj)} {σ : L2.St} {H : Hp} {s : Shared} (c : HotB X) (I : Inv X pins σ H s) : ∃ x1, HotAt X.A x1 s.heap ∧ ∀ b, FpOk X pins H b → x1 ≠ b := by
  obtain ⟨p, ⟨hh, vs, e1, e2⟩, _, k⟩ := c
  obtain ⟨g1, g2, g3⟩ := k _ _ _ _ I
  exact ⟨p.1, ⟨hh, p.2, vs, g1, e1, e2⟩, g3⟩
theorem hotB_suite {X : Cx} {a : Addr} {oe : Obj} {pn : List (Addr × Obj)} {cls : Value} {d : Option Addr} (hs : X.stack = X.env :: X.outer) (hfr : X.env.frame = some X.env.locals) (na : a ∉ frs X.stack) (z : L2N.Zn cls d oe) (hf : ∃ vs, oe.data = .fields vs) : HotB (X.suite a ((a, oe) :: pn)) := by
  obtain ⟨vs, e⟩ := hf
  refine ⟨(a, oe), ⟨rfl, vs, e, z.2.2 vs e⟩, na, fun pins σ H s I => ?_⟩
  have q := I.pin (a, oe) (List.mem_append_left _ List.mem_cons_self)
  exact ⟨q.1, q.2.1, fun b hb => hb.2.2.2.2.2 (a, oe) (List.mem_append_left _ List.mem_cons_self)⟩
theorem hotB_blk {X : Cx} {pins : List (Addr × Obj)} {σ : L2.St} {H : Hp} {s : Shared} {scope : Scope} {ce : Env} {fp : List Addr} (c : HotB X) (I : Inv X pins σ H s) (hfp : ∀ b ∈ fp, FpOk X pins H b) : HotB (X.blk s H scope ce fp) := by
  obtain ⟨p, h1, h2, k⟩ := c
  obtain ⟨g1, g2, g3⟩ := k _ _ _ _ I
  have nf : p.1 ∉ fp := fun z => g3 _ (hfp _ z) rfl
  refine ⟨p, h1, h2, fun pins' σ' H' s' I' => ⟨I'.base.keep _ _ g1 g2 h2 nf, I'.base.free _ _ g1 g2 nf, fun b hb z => ?_⟩⟩
  rcases hb.2.2.2.1 with y | y
  · exact g3 b (hfp b y) z
  · have y : s.heap.objs.size ≤ b := y
    have := Heap.lt_size g1
    rw [z] at this
    exact absurd this (Nat.not_lt.mpr y)
structure TurnB (P : Program) (w : World) (K : PySem.W.Frag) (tg : Expr) (J : It) (fp : List Addr) (it : Addr) (tn : Nat → Heap → Prop) : Prop where
  obj : ∀ i h, tn i h → ∀ b ∈ fp, ∃ o, h.get? b = some o ∧ ∀ v, o.data ≠ .cell v
  keep : ∀ i h h', tn i h → (∀ b ∈ fp, ∀ o, h.get? b = some o → h'.get? b = some o) → tn i h'
  item : ∀ (X : Cx), X.prog = P → X.w = w → X.K = K → ∀ {i : Nat} {pins : List (Addr × Obj)} {s : Shared} {σ : L2.St} {H : Hp} {E : Value → Shared → Prop}, Inv X pins σ H s → (∀ b ∈ fp, FpOk X pins H b) → tn i s.heap → J.go i H →
    wpAny (model P w) X.A (pyNext (.ref it)) (fun r s1 => ∃ u, r = some u ∧ wpAny (model P w) X.A (letOwnedTupleGo tg (.ref it) u) (fun _ s2 => ∃ x H', Inv X pins σ H' s2 ∧ RelV x u ∧ J.yld i H x H' ∧ tn (i + 1) s2.heap ∧ ∀ b ∈ fp, H' b = none) E s1) E s
  done : ∀ (X : Cx), X.prog = P → X.w = w → X.K = K → HotB X → ∀ {i : Nat} {pins : List (Addr × Obj)} {s : Shared} {σ : L2.St} {H : Hp} {E : Value → Shared → Prop}, Inv X pins σ H s → (∀ b ∈ fp, FpOk X pins H b) → tn i s.heap → J.stop i H →
    wpAny (model P w) X.A (pyNext (.ref it)) (fun r s1 => r = none ∧ Inv X pins σ H s1) E s
  self : ∀ {A : Around} {i : Nat} {s : Shared} {Q : Value → Shared → Prop} {E : Value → Shared → Prop}, tn i s.heap → Q (.ref it) s → wpAny (model P w) A (pyIter (.ref it)) Q E s
theorem turnB_list {P : Program} {w : World} {K : PySem.W.Frag} {tg : Expr} (a it : Addr) : TurnB P w K tg (Itl K a) [it] it (fun i h => h.IsListIter it a i) where
  obj := (turn_list (P := P) (w := w) (K := K) (tg := tg) a it).obj
  keep := (turn_list (P := P) (w := w) (K := K) (tg := tg) a it).keep
  item := fun X hP hw hK {i pins s σ H E} I hf st hg => by
    subst hP hw hK
    obtain ⟨xs, x, hq, hx⟩ := hg
    obtain ⟨its, rv, p, _⟩ := I.list hq
    obtain ⟨u, hu, ru⟩ := rv.get hx
    obtain ⟨f0, f1, f2, f3, f4, f5⟩ := hf it List.mem_cons_self
    refine wpAny_pyNext_list_item st p.isList (x := u) (by rw [List.getElem?_toArray]; exact hu) fun h' st' sb => ⟨u, rfl, ?_⟩
    obtain ⟨o, e1, e2, e3⟩ := id st'
    exact go_of (s := { s with heap := h' }) e1 e2 e3 (by decide) ⟨x, H, I.turned (t' := s.toks) (fun b o hb e => (sb.2 b hb).trans e) f0 f1 f3 f4 f5, ru, ⟨rfl, fun ys hy => by rw [I.list_inj hy hq]; exact hx⟩, st', fun b hb => (hf b hb).1⟩
  done := fun X hP hw hK hc {i pins s σ H E} I hf st hg => by
    subst hP hw hK
    obtain ⟨xs, hq, hx⟩ := hg
    obtain ⟨its, rv, p, _⟩ := I.list hq
    have hit := hf it List.mem_cons_self
    obtain ⟨f0, f1, f2, f3, f4, f5⟩ := id hit
    obtain ⟨x1, hot, f6⟩ := hc.at I
    have hl := rv.length
    exact list_end_hot hot (f6 it hit) st p.isList (by simp; omega) fun h' eb => ⟨rfl, I.turned (t' := s.toks) (fun b o hb e => eb b o hb e) f0 f1 f3 f4 f5⟩
  self := fun st h => wpAny_pyIter_listiter st h
structure PIB (X : Cx) (tg iter : Expr) (wi : TI) : Prop where
  run : ∀ {pins : List (Addr × Obj)} {s : Shared} {σ : L2.St} {H : Hp} {R : It → Hp → Prop}, Inv X pins σ H s → wi σ H R →
    wpAny (model X.prog X.w) X.A (eval iter X.env) (fun v s1 => wpAny (model X.prog X.w) X.A (pyIter v) (fun itv s2 => ∃ (it : Addr) (fp : List Addr) (tn : Nat → Heap → Prop) (J : It) (H' : Hp), itv = .ref it ∧ Inv X pins σ H' s2 ∧ TurnB X.prog X.w X.K tg J fp it tn ∧ tn 0 s2.heap ∧ (∀ b ∈ fp, FpOk X pins H' b) ∧ R J H') X.xe s1) X.xe s
theorem piB_list {X : Cx} {tg l : Expr} {tl : TE} (hl : PE X l tl) : PIB X tg l (iList X.K tl) := ⟨fun {pins s σ H R} I h => thn (hl.run pins s σ H _ I h) fun v s1 ⟨x, H1, I1, r1, a, ex, ⟨xs, hq⟩, q⟩ => by
  subst ex
  cases r1
  obtain ⟨its, rv, p, _⟩ := I1.list hq
  refine wpAny_pyIter_list p.isList ⟨s1.heap.objs.size, [s1.heap.objs.size], _, _, H1, rfl, I1.kept (t' := s1.toks) fun b o e => Heap.get?_push_of_some _ e, turnB_list a _, ⟨_, Heap.get?_push_size _ rfl, rfl, rfl⟩, fun b hb => ?_, q⟩
  rw [List.mem_singleton.mp hb]
  exact I1.fpOk (Nat.le_refl _) (I1.hok.fresh (Nat.le_refl _))⟩
theorem pgB_tup {X : Cx} {pos : Pos} {es : List Expr} {k : Nat} {t : TGs} {n : Nat} (hc : HotB X) (h : PGs X es t) (hn : (assignEach es X.env).length = n := by rfl) (hst : (assignEach es X.env).findIdx? (·.1) = none := by rfl) : PG X (.Tuple es k pos) (gTup X.K n t) := ⟨fun pins s σ H v u Q I r ⟨a, xs, ev, hq, hl, hw⟩ => by
  subst ev
  cases r
  obtain ⟨its, rv, ht, _⟩ := I.tuple hq
  obtain ⟨x1, hot, _⟩ := hc.at I
  exact asg_tup_hot hot ht (by rw [hn, List.size_toArray, ← hl, rv.length]) hst fun h' hx => h.run pins _ σ H xs _ Q (I.kept (t' := s.toks) fun b o e => hx b o (Nat.ne_of_lt (Heap.lt_size e)) e) (by simpa using rv) hw⟩

/-! ### a list comprehension there -/
section
variable {X : Cx} {elt tg iter : Expr} {ifs : List Expr} {scope : Scope} {own : List (Str × Nat)} {pos pos' : Pos} {wi : TI} {g : TG} {tt : TT} {te : TE}
theorem pe_lcB (hot : HotB X) (hN : X.N.Nodup) (hi : PIB X tg iter wi) (ok : BlkOk X.N X.env.scope scope own)
    (hg : ∀ (s : Shared) (H : Hp) (C : Addr) (cl : List (Str × Addr)) (fp : List Addr), HotB (X.blk s H scope (compEnvC scope cl C X.env) fp) → PG (X.blk s H scope (compEnvC scope cl C X.env) fp) tg g)
    (ht : ∀ (s : Shared) (H : Hp) (C : Addr) (cl : List (Str × Addr)) (fp : List Addr), PTs (X.blk s H scope (compEnvC scope cl C X.env) fp) ifs tt)
    (he : ∀ (s : Shared) (H : Hp) (C : Addr) (cl : List (Str × Addr)) (fp : List Addr), PE (X.blk s H scope (compEnvC scope cl C X.env) fp) elt te) (hs : ∀ x, foldedSetIterable iter X.env x = pure x := by intro _; rfl) :
    PE X (.ListComp elt [⟨tg, iter, ifs, 0⟩] scope pos) (tLc wi g tt te (own.map (·.2))) := by
  refine ⟨fun pins s σ H Q I h => ?_⟩
  rw [eval_ListComp]
  have fr : ∀ y ∈ scope.names, y.2 = .free → ∃ c, X.env.cells.lookup y.1 = some c := fun y hy e => (ok.free y hy e).elim (fun k => I.ok.has _ (.inl k)) fun k => I.ok.has _ (.inr k)
  refine wpAny_comprehension_free (use := none) rfl hs (closure_ok fr) ok.kind (fun y hy e => by rw [ok.uniq y hy, e]) (thn (hi.run I h) fun xv s1 hx => thn hx fun itv s2 ⟨it, fp, tn, J, H2, e, I2, T, st2, f2, q⟩ => ?_)
  subst e
  refine wpAny_newObj_type (newEnv_comp ?_) (Nat.zero_le _)
  generalize hD : s2.heap.objs.size = D
  obtain ⟨U, ⟨m0, u0⟩, turn⟩ := q D (I2.hok.fresh (Nat.le_of_eq hD))
  generalize hs3 : ({ s2 with heap := s2.heap.push { cls := .type "list", data := .seq ([] : List Value).toArray } } : Shared) = s3
  have h3 : s3.heap = s2.heap.push { cls := .type "list", data := .seq ([] : List Value).toArray } := by subst hs3; rfl
  have I3 : Inv X pins σ (upd H2 D (.lst [])) s3 := by
    subst hs3 hD
    exact I2.laid (t' := s2.toks) (fun b o e => Heap.get?_push_of_some _ e) (Nat.le_refl _) ⟨Nat.zero_le _, [], 0, .nil, Heap.get?_push_size _ rfl⟩
  have lt2 : ∀ b ∈ fp, b < s2.heap.objs.size := fun b hb => let ⟨o, e, _⟩ := T.obj _ _ st2 b hb; Heap.lt_size e
  have f3 : ∀ b ∈ fp, FpOk X pins (upd H2 D (.lst [])) b ∧ b < s3.heap.objs.size := fun b hb =>
    ⟨⟨by rw [upd_ne (show b ≠ D from hD ▸ Nat.ne_of_lt (lt2 b hb))]; exact (f2 b hb).1, (f2 b hb).2⟩, by rw [h3, Heap.size_push]; exact Nat.lt_succ_of_lt (lt2 b hb)⟩
  have st3 : tn 0 s3.heap := T.keep _ _ _ st2 fun b _ o e => by rw [h3]; exact Heap.get?_push_of_some _ e
  have I4 := block_start I3 ok hN f3
  have hotb : ∀ ce, HotB (X.blk s3 (upd H2 D (.lst [])) scope ce fp) := fun ce => hotB_blk hot I3 fun b hb => (f3 b hb).1
  have pg := hg s3 (upd H2 D (.lst [])) s3.heap.objs.size (cellsFrom (s3.heap.objs.size + 1) scope.names (cloFrom X.env.cells scope.names [])) fp (hotb _)
  have pt := ht s3 (upd H2 D (.lst [])) s3.heap.objs.size (cellsFrom (s3.heap.objs.size + 1) scope.names (cloFrom X.env.cells scope.names [])) fp
  have pe := he s3 (upd H2 D (.lst [])) s3.heap.objs.size (cellsFrom (s3.heap.objs.size + 1) scope.names (cloFrom X.env.cells scope.names [])) fp
  have hRR : ∀ s' m H', Inv X pins σ H' s' → Q (.ref D) H' → s'.heap.Ns s3.heap.objs.size m → FpOk X pins H' s3.heap.objs.size → compPost (model X.prog X.w) X.A X.xe none (EP X pins σ Q) (.ref D) s3.heap.objs.size (.ok .next) s' := fun s' m H' I' q hn ⟨f0, f1, f2, f3, f4, f5⟩ =>
    ⟨m, hn, fun h'' sb => ⟨.ref D, H', I'.turned (t' := s'.toks) (fun b o hb e => (sb.2 b hb).trans e) f0 f1 f3 f4 f5, rfl, q⟩⟩
  refine (show codeAny _ _ (.compStart (.ListComp elt [⟨tg, iter, ifs, 0⟩] scope pos) 0 (.ref it) (.ref D) (compEnvC scope (cellsFrom (s3.heap.objs.size + 1) scope.names (cloFrom X.env.cells scope.names [])) s3.heap.objs.size X.env)) (compPost (model X.prog X.w) X.A X.xe none (EP X pins σ Q) (.ref D) s3.heap.objs.size)
    { s3 with heap := pushCells (s3.heap.push { cls := .type "dict", data := .dict #[] }) scope.names } from ?_)
  generalize hce : compEnvC scope (cellsFrom (s3.heap.objs.size + 1) scope.names (cloFrom X.env.cells scope.names [])) s3.heap.objs.size X.env = ce at I4 pg pt pe ⊢
  have cL : ce.locals = s3.heap.objs.size := by subst hce; rfl
  have nfp : ∀ b ∈ fp, (upd H2 D (.lst [])) b = none := fun b hb => (f3 b hb).1.1
  generalize hH3 : upd H2 D (.lst []) = H3 at I3 I4 pg pt pe u0 nfp f3 hotb
  generalize hs4 : ({ s3 with heap := pushCells (s3.heap.push { cls := .type "dict", data := .dict #[] }) scope.names } : Shared) = s4 at I4 ⊢
  have st4 : tn 0 s4.heap := T.keep _ _ _ st3 fun b _ o e => by subst hs4; exact pushCells_keeps _ _ _ _ (Heap.get?_push_of_some _ e)
  have stat : ∀ {σ' : L2.St} {H' : Hp} {s' : Shared}, Inv (X.blk s3 H3 scope ce fp) [] σ' H' s' → (∀ b ∈ fp, H' b = none) → ∀ b ∈ fp, FpOk (X.blk s3 H3 scope ce fp) [] H' b := fun I' hn b hb =>
    ⟨hn b hb, (I'.ok.exf b hb).1, I'.ok.exfs b hb, .inl hb, (I'.ok.exf b hb).2, fun p hp => nomatch (show p ∈ ([] : List (Addr × Obj)) from hp)⟩
  have loop : codeAny (model X.prog X.w) X.A (.compLoop (.ListComp elt [⟨tg, iter, ifs, 0⟩] scope pos) 0 (.ref it) (.ref D) ce) (compPost (model X.prog X.w) X.A X.xe none (EP X pins σ Q) (.ref D) s3.heap.objs.size) s4 := by
    refine compLoop_any (fun n s' => ∃ i H', Inv (X.blk s3 H3 scope ce fp) [] (L2.wipe σ (own.map (·.2))) H' s' ∧ tn i s'.heap ∧ (∀ b ∈ fp, H' b = none) ∧ U i n H') ?_ m0 ⟨0, H3, I4, st4, nfp, u0⟩
    rintro n s5 ⟨i, H5, I5, st5, n5, w5⟩
    rcases turn i n H5 w5 with ⟨stop, qq⟩ | ⟨go, Nx, hNx, step⟩
    · refine thnF (T.done (X.blk s3 H3 scope ce fp) rfl rfl rfl (hotb ce) (E := fun _ _ => False) I5 (stat I5 n5) st5 stop) fun r s6 ⟨hr, I6⟩ => ?_
      subst hr
      have nC : H5 s3.heap.objs.size = none := cL ▸ (show H5 ce.locals = none from I6.free)
      obtain ⟨m, hn, _⟩ := I6.loc
      have hn : s6.heap.Ns ce.locals m := hn
      rw [cL] at hn
      exact hRR s6 m H5 (I3.call' (ch := fp) I6.os I6.base I6.hok I6.bare fun b hb => ⟨(f3 b hb).1.2.2.2.1, (f3 b hb).1.2.1, (f3 b hb).1.2.2.2.2.1, (f3 b hb).1.2.2.2.2.2⟩) qq hn (I3.fpOk (Nat.le_refl _) nC)
    · refine thnF (T.item (X.blk s3 H3 scope ce fp) rfl rfl rfl (E := fun _ _ => False) I5 (stat I5 n5) st5 go) fun r s6 ⟨u, hr, h6⟩ => ?_
      subst hr
      refine thnF h6 fun _ s7 ⟨x, H7, I7, r7, y7, st7, n7⟩ => thnF (pg.run _ s7 _ H7 x u _ (I7.pinned (stat I7 n7) (T.obj _ _ st7)) r7 (step x H7 y7)) fun _ s8 ⟨σ8, H8, I8, hw8, q8⟩ => thnF (pt.run _ s8 σ8 H8 _ I8 q8) fun b s9 ⟨H9, I9, q9⟩ => ?_
      have fin : ∀ {s' : Shared} {H' : Hp}, Inv (X.blk s3 H3 scope ce fp) ([] ++ pinsAt fp s7.heap) σ8 H' s' → Nx H' → ∃ m, m < n ∧ ∃ i H', Inv (X.blk s3 H3 scope ce fp) [] (L2.wipe σ (own.map (·.2))) H' s' ∧ tn i s'.heap ∧ (∀ b ∈ fp, H' b = none) ∧ U i m H' := fun {s' H'} I' nx => by
        obtain ⟨m', hm, w'⟩ := hNx H' nx
        have pin' : ∀ b ∈ fp, ∀ o, s7.heap.get? b = some o → s'.heap.get? b = some o ∧ H' b = none := fun b hb o e =>
          let z := I'.pin (b, o) (List.mem_append_right _ (List.mem_append_right _ (mem_pinsAt hb e))); ⟨z.1, z.2.1⟩
        refine ⟨m', hm, i + 1, H', (I'.unpinned (pins := [])).weak (by rw [← hw8, wipe_length]) (fun j v e => by rw [← hw8] at e; exact (wipe_some e).1), T.keep _ _ _ st7 fun b hb o e => (pin' b hb o e).1, fun b hb => ?_, w'⟩
        obtain ⟨o, e, _⟩ := T.obj _ _ st7 b hb
        exact (pin' b hb o e).2
      cases b with
      | false => exact fin I9 q9
      | true =>
        refine thnF (pe.run _ s9 σ8 H9 _ I9 q9) fun z s10 ⟨yv, H10, I10, r10, acc, hD10, hz10, nx⟩ => ?_
        exact app_ok (X := X.blk s3 H3 scope ce fp) I10 hD10 hz10 r10 fun s11 I11 => fin I11 nx
  exact codeAny_compStart_list loop (T.self st4 loop)
end
end DL
set_option maxHeartbeats 4000000
namespace DL
open PySem PySem.Spec L2

/-! ### except clauses: what a clause's test says of an exception's class -/
/-- e, a clause's test, answers b by the class, m cls = some b; new objects at most are made -/
def TstC (X : Cx) (e : Expr) (m : Value → Option Bool) : Prop := ∀ {a : Addr} {q : Addr × Obj} {pn : List (Addr × Obj)} {σ : L2.St} {H : Hp} {s : Shared} {cls : Value} {b : Bool} {Q : Bool → Shared → Prop} {E : Value → Shared → Prop},
  Inv (X.suite a (q :: pn)) [] σ H s → PySem.W.Looks (model X.prog X.w) s.heap (typeOf (.ref a)) cls → m cls = some b → (∀ h2, (∀ b o, s.heap.get? b = some o → h2.get? b = some o) → Q b { s with heap := h2 }) →
  wpAny (model X.prog X.w) (X.A.mark (some (.ref a))) (eval e X.env) (fun c s1 => wpAny (model X.prog X.w) (X.A.mark (some (.ref a))) (excMatches (.ref a) c) Q E s1) E s
section
variable {X : Cx}
theorem ld_names {x : Str} {c : Value} {a : Addr} {q : Addr × Obj} {pn : List (Addr × Obj)} {σ : L2.St} {H : Hp} {s : Shared} {np : Pos} {Q : Value → Shared → Prop} {E : Value → Shared → Prop} (hc : Names X x c) (S : Inv (X.suite a (q :: pn)) [] σ H s) (h : Q c s) :
    wpAny (model X.prog X.w) (X.A.mark (some (.ref a))) (eval (.Name x np) X.env) Q E s := by
  obtain ⟨hg, hd, hm | ⟨hm, hv, hn⟩⟩ := hc
  · exact ld_glob (X := X.suite a (q :: pn)) S hg hm h hd
  · exact ld_blt (X := X.suite a (q :: pn)) S hg hm hv h hn hd
theorem tst_name {x : Str} {c : Value} {np : Pos} (hc : Names X x c) : TstC X (.Name x np) (fun cls => PySem.W.exmOne X.K cls c) := fun S LT hb h =>
  ld_names hc S ((PySem.W.exm_one S.kIn LT hb).here (h _ fun _ _ z => z))
theorem tst_tup2 {x1 x2 : Str} {c1 c2 : Value} {n1 n2 pos : Pos} {kx : Nat} (h1 : Names X x1 c1) (h2 : Names X x2 c2) : TstC X (.Tuple [.Name x1 n1, .Name x2 n2] kx pos) (fun cls => PySem.W.exmAny X.K cls [c1, c2]) := fun {a q pn σ H s cls b Q E} S LT hb h => by
  refine wpAny_Tuple_spliced (Calls.spliced_cons (ld_names h1 S (Calls.spliced_cons (ld_names h2 S (Calls.spliced_nil (And.intro (by rw [sizeLine_eq]; simp) ?_))))))
  have kp : ∀ b o, s.heap.get? b = some o → (s.heap.push { cls := .type "tuple", data := .seq [c1, c2].toArray }).get? b = some o := fun b o e => Heap.get?_push_of_some _ e
  exact (PySem.W.exm_tup2 (S.kIn.keeps kp) (LT.keeps kp) (Heap.get?_push_size s.heap rfl) hb).here (h _ kp)
theorem tst_tup3 {x1 x2 x3 : Str} {c1 c2 c3 : Value} {n1 n2 n3 pos : Pos} {kx : Nat} (h1 : Names X x1 c1) (h2 : Names X x2 c2) (h3 : Names X x3 c3) : TstC X (.Tuple [.Name x1 n1, .Name x2 n2, .Name x3 n3] kx pos) (fun cls => PySem.W.exmAny X.K cls [c1, c2, c3]) := fun {a q pn σ H s cls b Q E} S LT hb h => by
  refine wpAny_Tuple_spliced (Calls.spliced_cons (ld_names h1 S (Calls.spliced_cons (ld_names h2 S (Calls.spliced_cons (ld_names h3 S (Calls.spliced_nil (And.intro (by rw [sizeLine_eq]; simp) ?_))))))))
  have kp : ∀ b o, s.heap.get? b = some o → (s.heap.push { cls := .type "tuple", data := .seq [c1, c2, c3].toArray }).get? b = some o := fun b o e => Heap.get?_push_of_some _ e
  exact (PySem.W.exm_tup3 (S.kIn.keeps kp) (LT.keeps kp) (Heap.get?_push_size s.heap rfl) hb).here (h _ kp)
theorem tst_tup4 {x1 x2 x3 x4 : Str} {c1 c2 c3 c4 : Value} {n1 n2 n3 n4 pos : Pos} {kx : Nat} (h1 : Names X x1 c1) (h2 : Names X x2 c2) (h3 : Names X x3 c3) (h4 : Names X x4 c4) : TstC X (.Tuple [.Name x1 n1, .Name x2 n2, .Name x3 n3, .Name x4 n4] kx pos) (fun cls => PySem.W.exmAny X.K cls [c1, c2, c3, c4]) := fun {a q pn σ H s cls b Q E} S LT hb h => by
  refine wpAny_Tuple_spliced (Calls.spliced_cons (ld_names h1 S (Calls.spliced_cons (ld_names h2 S (Calls.spliced_cons (ld_names h3 S (Calls.spliced_cons (ld_names h4 S (Calls.spliced_nil (And.intro (by rw [sizeLine_eq]; simp) ?_))))))))))
  have kp : ∀ b o, s.heap.get? b = some o → (s.heap.push { cls := .type "tuple", data := .seq [c1, c2, c3, c4].toArray }).get? b = some o := fun b o e => Heap.get?_push_of_some _ e
  exact (PySem.W.exm_tup4 (S.kIn.keeps kp) (LT.keeps kp) (Heap.get?_push_size s.heap rfl) hb).here (h _ kp)
end
/-! ### try, clauses with and without a name -/
structure Cl where
  m : Value → Option Bool
  i : Option Nat
  ts : Addr → Value → Option Addr → TS
def goneE (i : Nat) (D : Ends) : Ends := { nx := fun σ H => D.nx (σ.set i none) H, rt := D.rt, bk := fun σ H => D.bk (σ.set i none) H, ct := fun σ H => D.ct (σ.set i none) H }
def wCl (Wout : WX) (D : Ends) : List Cl → WX
  | [] => Wout
  | c :: r => fun cls d σ H => ∃ b, c.m cls = some b ∧ (b = true → ∀ a, H a = none → match c.i with | some i => c.ts a cls d (goneE i D) (σ.set i (some (.ref a))) H | none => c.ts a cls d D σ H) ∧ (b = false → wCl Wout D r cls d σ H)
/-- a suite in its context -/
def SuOk (X : Cx) (su : List Stmt) (ts : Addr → Value → Option Addr → TS) : Prop := ∀ (a : Addr) (oe : Obj) (cls : Value) (d : Option Addr) (pn : List (Addr × Obj)), L2N.Zn cls d oe → (∃ vs, oe.data = .fields vs) → HotB (X.suite a ((a, oe) :: pn)) → PSs (X.suite a ((a, oe) :: pn)) su (ts a cls d)
inductive ClOk (X : Cx) : List ExceptHandler → List Cl → Prop
  | nil : ClOk X [] []
  | as {e : Expr} {n : Str} {i : Nat} {m : Value → Option Bool} {ts : Addr → Value → Option Addr → TS} {b0 : Stmt} {su : List Stmt} {pos : Pos} {hds : List ExceptHandler} {l : List Cl} (tc : TstC X e m) (hi : X.N[i]? = some n) (hl : X.env.kindOf n = some .local) (hsu : SuOk X (b0 :: su) ts) (r : ClOk X hds l) :
      ClOk X (.ExceptHandler (some e) (some n) (b0 :: su) pos :: hds) (⟨m, some i, ts⟩ :: l)
  | no {e : Expr} {m : Value → Option Bool} {ts : Addr → Value → Option Addr → TS} {b0 : Stmt} {su : List Stmt} {pos : Pos} {hds : List ExceptHandler} {l : List Cl} (tc : TstC X e m) (hsu : SuOk X (b0 :: su) ts) (r : ClOk X hds l) :
      ClOk X (.ExceptHandler (some e) none (b0 :: su) pos :: hds) (⟨m, none, ts⟩ :: l)
theorem fly_more {B h h2 : Heap} {l : List Env} {a : Addr} {Z : Obj → Prop} (f : HandSPX.FlyingZ B l a Z h) (k : ∀ b o, h.get? b = some o → h2.get? b = some o) : HandSPX.FlyingZ B l a Z h2 := by
  obtain ⟨f1, f2, f3, oe, vs, T, oT, ts, e1, e2, e3, e4, e5, e6, e7, e8⟩ := f
  exact ⟨fun b o e => k b o (f1 b o e), f2, f3.of_keeps fun b o e _ => ⟨o, k b o e, rfl⟩, oe, vs, T, oT, ts, k _ _ e1, e2, e3, e4, e5, e6, k _ _ e7, e8⟩
section
variable {X : Cx} {body : List Stmt} {h0 : ExceptHandler} {hds : List ExceptHandler} {l : List Cl} {pos : Pos} {tb : WX → TS} {Wout : WX}
theorem ps_tryC (hs : X.stack = X.env :: X.outer) (hf : X.env.frame = some X.env.locals) (hN : X.N.Nodup) (tk : L2N.Takes X Wout)
    (hb : ∀ (W : WX) (pn : List (Addr × Obj)) (xe : Value → Shared → Prop), L2N.Takes (X.tr pn xe) W → PassesOwn (model X.prog X.w) X.A X.env xe → PSs (X.tr pn xe) body (tb W)) (hh : ClOk X (h0 :: hds) l) : PS X (.Try body (h0 :: hds) [] [] pos) (fun D σ H => tb (wCl Wout D l) D σ H) := by
  refine ⟨fun pins s σ H D I h => wpAny_Try_except ?_⟩
  have ok := I.ok
  have hfr : X.A.frames = some (X.env :: X.outer) := by rw [ok.frames, hs]
  refine wpAny_mono ((hb (wCl Wout D l) (X.pn ++ pins) (fun e s1 => wpAny (model X.prog X.w) X.A (noteFrame e X.env) (fun _ s2 => wpAny (model X.prog X.w) X.A (setFlight e none) (fun _ s3 => wpAny (model X.prog X.w) X.A (handleBy e X.env (h0 :: hds)) (SP X pins D) X.xe s3) X.xe s2) X.xe s1)
    (fun u s' xx => ?_) PassesOwn.looking).run [] s σ H D (I.toTry _) h) (fun f s1 hsp => ?_) (fun e s1 he => he)
  · obtain ⟨a, B, sI, pins', σ', H', cls, d, rfl, J', nb, up, sky, na, os, ag, wish⟩ := xx
    have J : Inv X pins σ' H' sI := J'.ofTry ok
    have sky' : Sky B (X.env :: X.outer) a (L2N.Zn cls d) X.env.locals s'.heap := by rw [← hs]; exact sky
    refine (show wpAny (model X.prog X.w) X.A (noteFrame (.ref a) X.env) _ _ _ from L2N.Sky.land L2N.Zn.steady hfr hf sky' fun h3 fl3 up3 => ?_)
    -- the clauses, from any later heap
    have go : ∀ {hds' : List ExceptHandler} {l' : List Cl}, ClOk X hds' l' → wCl Wout D l' cls d σ' H' → ∀ h4, HandSPX.FlyingZ B (X.env :: X.outer) a (L2N.Zn cls d) h4 → sI.heap.UpToSlots h4 →
        wpAny (model X.prog X.w) X.A (handleBy (.ref a) X.env hds') (SP X pins D) X.xe { s' with heap := h4 } := by
      intro hds' l' hk
      induction hk with
      | nil =>
        intro wi h4 fl4 up4
        refine wpAny_handleBy_nil ?_
        obtain ⟨k1, k2, k3, oe, vs, T, oT, ts', he, hz, hd, h1, hr⟩ := id fl4
        unfold PySem.passOn
        refine wpAny_bind (wpAny_field he hd h1 ?_)
        rw [if_neg (show ¬ ((Value.ref T == Value.none) = true) by simp)]
        have fin : wpAny (model X.prog X.w) X.A (setFlight (.ref a) X.env.frame) (fun _ s4 => wpAny (model X.prog X.w) X.A (throw (.ref a) : Sem Flow) (SP X pins D) X.xe s4) X.xe { s' with heap := h4 } := by
          rw [hf]
          exact HandSPX.setFlight_upZ fl4 fun h5 hh5 up5 => wpAny_throw (tk _ _ ⟨a, B, sI, pins, σ', H', cls, d, rfl, J, nb, up4.trans up5, .inr (.inr (by rw [hs]; exact hh5)), na, os, ag, wi⟩)
        first
          | exact wpAny_bind (wpAny_pure (wpAny_bind fin))
          | exact wpAny_bind fin
      | @as e n i m ts b0 su pos' hds2 l2 tc hi hl hsu r ih =>
        intro ⟨b, hb1, hyes, hno⟩ h4 fl4 up4
        obtain ⟨oe4, vs4, he4, hz4, hd4⟩ := fl4.there
        have nfr : a ∉ frs (X.env :: X.outer) := fun hm => by
          obtain ⟨_, o', e', hnf⟩ := fl4.2.2.1.mem hm
          rw [he4] at e'; cases e'
          exact hnf _ hd4
        have nL : a ≠ X.env.locals := fun z => nfr (List.mem_filterMap.mpr ⟨X.env, List.mem_cons_self, by rw [hf, z]⟩)
        have nF : a ∉ X.fs := fun hm => let ⟨e, he, q⟩ := List.mem_filterMap.mp hm; nfr (List.mem_filterMap.mpr ⟨e, List.mem_cons_of_mem _ he, q⟩)
        have J4 : Inv X pins σ' H' { s' with heap := h4 } := J.landed nb fl4.1 up4 os ag
        refine wpAny_handleBy_cons (codeAny_handlers_test (tc (J4.suite he4 hd4 na nL nF) (fun A Q E s k q => wpAny_typeOf_ref (k _ _ he4) (by rw [hz4.1]; exact q)) hb1 fun h5 k5 => ?_)) (by intro q; cases q)
        have fl5 := fly_more fl4 k5
        have up5 : sI.heap.UpToSlots h5 := up4.trans (Heap.UpToSlots.of_keeps k5)
        cases b with
        | false => exact (show wpAny _ X.A (handleBy (.ref a) X.env hds2) _ _ _ from ih (hno rfl) h5 fl5 up5)
        | true =>
          refine codeAny_handlers_suite_as (HandSPX.lands_againZ fl5 fun h6 fl6 up6 => ?_)
          have J6 : Inv X pins σ' H' { s' with heap := h6 } := J.landed nb fl6.1 (up5.trans up6) os ag
          obtain ⟨oe6, vs6, he6, hz6, hd6⟩ := fl6.there
          refine store_ok (X := X.suite a ((a, oe6) :: (X.pn ++ pins))) (v := .ref a) (J6.suite he6 hd6 na nL nF) hN hi (.inl hl) rfl (fun s5 S5 => ?_) (.inr hl)
          refine wpAny_mono ((hsu a oe6 cls d (X.pn ++ pins) hz6 ⟨_, hd6⟩ (hotB_suite hs hf (by rw [hs]; exact nfr) hz6 ⟨_, hd6⟩)).run [] s5 _ H' _ S5 (hyes rfl a na)) (fun f s6 hsp => ?_) (fun _ _ z => False.elim z)
          have ends : ∀ {σ6 : L2.St} {H6 : Hp} {Q : Shared → Prop}, Inv (X.suite a ((a, oe6) :: (X.pn ++ pins))) [] σ6 H6 s6 → (∀ s7, Inv X pins (σ6.set i none) H6 s7 → Q s7) →
              wpAny (model X.prog X.w) X.A (do bindName X.env n .none; unbindBehindTheSuite X.env n pos') (fun _ s7 => Q s7) X.xe s6 := fun S6 hq => gone_ok (S6.unsuite ok) hN hi hl hq
          rcases f with _ | _ | _ | u
          · obtain ⟨σ6, H6, S6, q6⟩ := hsp; exact ends S6 fun s7 J7 => ⟨_, _, J7, q6⟩
          · obtain ⟨σ6, H6, S6, q6⟩ := hsp; exact ends S6 fun s7 J7 => ⟨_, _, J7, q6⟩
          · obtain ⟨σ6, H6, S6, q6⟩ := hsp; exact ends S6 fun s7 J7 => ⟨_, _, J7, q6⟩
          · obtain ⟨v6, σ6, H6, S6, r6, q6⟩ := hsp; exact ends S6 fun s7 J7 => ⟨_, _, _, J7, r6, q6⟩
      | @no e m ts b0 su pos' hds2 l2 tc hsu r ih =>
        intro ⟨b, hb1, hyes, hno⟩ h4 fl4 up4
        obtain ⟨oe4, vs4, he4, hz4, hd4⟩ := fl4.there
        have nfr : a ∉ frs (X.env :: X.outer) := fun hm => by
          obtain ⟨_, o', e', hnf⟩ := fl4.2.2.1.mem hm
          rw [he4] at e'; cases e'
          exact hnf _ hd4
        have nL : a ≠ X.env.locals := fun z => nfr (List.mem_filterMap.mpr ⟨X.env, List.mem_cons_self, by rw [hf, z]⟩)
        have nF : a ∉ X.fs := fun hm => let ⟨e, he, q⟩ := List.mem_filterMap.mp hm; nfr (List.mem_filterMap.mpr ⟨e, List.mem_cons_of_mem _ he, q⟩)
        have J4 : Inv X pins σ' H' { s' with heap := h4 } := J.landed nb fl4.1 up4 os ag
        refine wpAny_handleBy_cons (codeAny_handlers_test (tc (J4.suite he4 hd4 na nL nF) (fun A Q E s k q => wpAny_typeOf_ref (k _ _ he4) (by rw [hz4.1]; exact q)) hb1 fun h5 k5 => ?_)) (by intro q; cases q)
        have fl5 := fly_more fl4 k5
        have up5 : sI.heap.UpToSlots h5 := up4.trans (Heap.UpToSlots.of_keeps k5)
        cases b with
        | false => exact (show wpAny _ X.A (handleBy (.ref a) X.env hds2) _ _ _ from ih (hno rfl) h5 fl5 up5)
        | true =>
          refine codeAny_handlers_suite (HandSPX.lands_againZ fl5 fun h6 fl6 up6 => ?_)
          have J6 : Inv X pins σ' H' { s' with heap := h6 } := J.landed nb fl6.1 (up5.trans up6) os ag
          obtain ⟨oe6, vs6, he6, hz6, hd6⟩ := fl6.there
          refine wpAny_mono ((hsu a oe6 cls d (X.pn ++ pins) hz6 ⟨_, hd6⟩ (hotB_suite hs hf (by rw [hs]; exact nfr) hz6 ⟨_, hd6⟩)).run [] _ _ H' _ (J6.suite he6 hd6 na nL nF) (hyes rfl a na)) (fun f s6 hsp => ?_) (fun _ _ z => False.elim z)
          rcases f with _ | _ | _ | u
          · obtain ⟨σ6, H6, S6, q6⟩ := hsp; exact ⟨_, _, S6.unsuite ok, q6⟩
          · obtain ⟨σ6, H6, S6, q6⟩ := hsp; exact ⟨_, _, S6.unsuite ok, q6⟩
          · obtain ⟨σ6, H6, S6, q6⟩ := hsp; exact ⟨_, _, S6.unsuite ok, q6⟩
          · obtain ⟨v6, σ6, H6, S6, r6, q6⟩ := hsp; exact ⟨_, _, _, S6.unsuite ok, r6, q6⟩
    exact go hh wish h3 fl3 (up.trans up3)
  · rcases f with _ | _ | _ | u
    · obtain ⟨σ', H', J', q⟩ := hsp; exact wpAny_execs_nil ⟨σ', H', J'.ofTry ok, q⟩
    · obtain ⟨σ', H', J', q⟩ := hsp; exact ⟨σ', H', J'.ofTry ok, q⟩
    · obtain ⟨σ', H', J', q⟩ := hsp; exact ⟨σ', H', J'.ofTry ok, q⟩
    · obtain ⟨v, σ', H', J', r, q⟩ := hsp; exact ⟨v, σ', H', J'.ofTry ok, r, q⟩
end
end DL
set_option maxHeartbeats 4000000
namespace DL
open PySem PySem.Spec L2
section
variable {W : Wd} {F0 F : Hp} {M : Sto} {H H1 : Hp} {p : Addr} {o : HO}
/-- an object that stands there is from now on held for unchanging -/
theorem Rep.know (R : Rep W F0 F M H) (h : H p = some o) (hM : M p = none) (nt : ∀ ps, o ≠ .tbl ps := by intro _ z; cases z) : Rep W F0 (upd F p o) M H ∧ Le F (upd F p o) := by
  have l : Le F (upd F p o) := fun b u q => by
    by_cases hb : b = p
    · subst hb; rw [upd_same]; have := R.le _ _ q; rw [h] at this; exact this
    · rw [upd_ne hb]; exact q
  refine ⟨⟨R.base.trans l, fun b u q => ?_, fun b m q => ?_, R.tabs, fun b ps q => ?_, R.scr⟩, l⟩
  · by_cases hb : b = p
    · subst hb; rw [upd_same] at q; cases q; exact h
    · rw [upd_ne hb] at q; exact R.le b u q
  · have nb : b ≠ p := fun z => by rw [z, hM] at q; cases q
    obtain ⟨h1, h2⟩ := R.mo b m q
    exact ⟨by rw [upd_ne nb]; exact h1, h2.le l⟩
  · by_cases hb : b = p
    · subst hb; rw [upd_same] at q; cases q; exact nt ps rfl
    · rw [upd_ne hb] at q; exact R.nt b ps q
theorem Rep.xd_free {fs : List (Str × V)} (R : Rep W F0 F M H) (h : H p = some (.xd fs)) : M p = none := by
  cases e : M p with
  | none => rfl
  | some m =>
    have q := (R.mo p m e).2
    cases m with
    | lst ds => obtain ⟨xs, z, _⟩ := q; rw [h] at z; cases z
    | dic kvs => obtain ⟨xs, z, _⟩ := q; rw [h] at z; cases z
    | deck ws => obtain ⟨_, _, _, _, _, _, _, _, z, _⟩ := q; rw [h] at z; cases z
    | part => obtain ⟨xs, z⟩ := q; rw [h] at z; cases z
/-- all but the tables stayed -/
theorem Rep.ext (R : Rep W F0 F M H) (e : LamX.ExtN H H1) (t : LamX.Tabs W.T H1) : Rep W F0 F M H1 := by
  have k : ∀ b o, H b = some o → (∀ ps, o ≠ .tbl ps) → H1 b = some o := e
  refine ⟨R.base, fun b u q => k b u (R.le b u q) fun ps z => R.nt b ps (by rw [q, z]), fun b m q => ⟨(R.mo b m q).1, ?_⟩, t, R.nt, fun s hs => ?_⟩
  · have q := (R.mo b m q).2
    cases m with
    | lst ds => obtain ⟨xs, z, r⟩ := q; exact ⟨xs, k _ _ z (by intro _ z; cases z), r⟩
    | dic kvs => obtain ⟨xs, z, r⟩ := q; exact ⟨xs, k _ _ z (by intro _ z; cases z), r⟩
    | deck ws => obtain ⟨l, cells, c1, c2, xs, h1, h2, h3, h4, h5⟩ := q; exact ⟨l, cells, c1, c2, xs, h1, k _ _ h2 (by intro _ z; cases z), h3, k _ _ h4 (by intro _ z; cases z), h5⟩
    | part => obtain ⟨xs, z⟩ := q; exact ⟨xs, k _ _ z (by intro _ z; cases z)⟩
  · rcases R.scr s hs with ⟨ob, z⟩ | z
    · exact .inl ⟨ob, k _ _ z (by intro _ z; cases z)⟩
    · exact .inr z
end
/-! ### try -/
structure ClD where
  m : Addr → Option Bool
  i : Option Nat
  ts : Addr → Addr → List (Str × D) → TSD
def goneD (i : Nat) (d : EndD) : EndD := { nx := fun δ M => d.nx (δ.set i none) M, rt := d.rt, bk := fun δ M => d.bk (δ.set i none) M, ct := fun δ M => d.ct (δ.set i none) M }
def wClD (out : Sl → XKD) (d : EndD) : List ClD → Sl → XKD
  | [] => out
  | c :: r => fun δ C fs M => match c.m C with
    | some true => ∀ a, (match c.i with | some i => c.ts a C fs (goneD i d) (δ.set i (some (.ref a))) M | none => c.ts a C fs d δ M)
    | some false => wClD out d r δ C fs M
    | none => False
def tsV (W : Wd) (ts : Addr → Addr → List (Str × D) → TSD) : Addr → Value → Option Addr → TS := fun a cls d Dn σ H => ∃ (C dd : Addr) (fs : List (Str × D)) (vs : List V) (F : Hp), cls = .ref C ∧ d = some dd ∧ F dd = some (.xd ((fs.map (·.1)).zip vs)) ∧ Rds F (fs.map (·.2)) vs ∧ LS W F (ts a C fs) Dn σ H
def toCl (W : Wd) (c : ClD) : Cl := ⟨fun cls => match cls with | .ref C => c.m C | _ => none, c.i, tsV W c.ts⟩
/-- a suite: a is the exception, C its class, fs its fields, at dd -/
def SuD (W : Wd) (X : Cx) (su : List Stmt) (ts : Addr → Addr → List (Str × D) → TSD) : Prop := ∀ (a : Addr) (oe : Obj) (C dd : Addr) (pn : List (Addr × Obj)) (F0 : Hp) (fs : List (Str × D)) (vs : List V), L2N.Zn (.ref C) (some dd) oe → (∃ vs, oe.data = .fields vs) → HotB (X.suite a ((a, oe) :: pn)) →
  F0 dd = some (.xd ((fs.map (·.1)).zip vs)) → Rds F0 (fs.map (·.2)) vs → PSsD W F0 (X.suite a ((a, oe) :: pn)) su (ts a C fs)
theorem suOk {W : Wd} {X : Cx} {su : List Stmt} {ts : Addr → Addr → List (Str × D) → TSD} (h : SuD W X su ts) : SuOk X su (tsV W ts) := fun a oe cls d pn z hf hot => ⟨fun pins s σ H Dn I ⟨C, dd, fs, vs, F, ec, ed, e1, e2, q⟩ => by
  subst ec ed
  exact (h a oe C dd pn F fs vs z hf hot e1 e2).run pins s σ H Dn I q⟩
theorem TstC.ref {X : Cx} {e : Expr} {m : Value → Option Bool} (h : TstC X e m) : TstC X e (fun cls => match cls with | .ref C => m (.ref C) | _ => none) := fun {a q pn σ H s cls b Q E} S LT hb k => by
  cases cls <;> first | exact h S LT hb k | cases hb
section
variable {W : Wd} {F0 : Hp} {X : Cx} {body : List Stmt} {h0 : ExceptHandler} {hds : List ExceptHandler} {l : List ClD} {pos : Pos} {tb : (Sl → XKD) → TSD} {eS : Sl → XKD}
theorem cld_as {e : Expr} {n : Str} {i : Nat} {m : Value → Option Bool} {ts : Addr → Addr → List (Str × D) → TSD} {b0 : Stmt} {su : List Stmt} {pos : Pos} (tc : TstC X e m) (hsu : SuD W X (b0 :: su) ts) (r : ClOk X hds (l.map (toCl W))) (hi : X.N[i]? = some n := by rfl) (hl : X.env.kindOf n = some .local := by rfl) :
    ClOk X (.ExceptHandler (some e) (some n) (b0 :: su) pos :: hds) ((⟨fun C => m (.ref C), some i, ts⟩ :: l).map (toCl W)) := .as tc.ref hi hl (suOk hsu) r
theorem cld_no {e : Expr} {m : Value → Option Bool} {ts : Addr → Addr → List (Str × D) → TSD} {b0 : Stmt} {su : List Stmt} {pos : Pos} (tc : TstC X e m) (hsu : SuD W X (b0 :: su) ts) (r : ClOk X hds (l.map (toCl W))) :
    ClOk X (.ExceptHandler (some e) none (b0 :: su) pos :: hds) ((⟨fun C => m (.ref C), none, ts⟩ :: l).map (toCl W)) := .no tc.ref (suOk hsu) r
theorem goS_gone {F F1 : Hp} {i : Nat} {k : Sl → Sto → Prop} {Q : L2.St → Hp → Prop} (g : GoS W F k Q) (l : Le F F1) : GoS W F1 (fun δ M => k (δ.set i none) M) (fun σ H => Q (σ.set i none) H) := fun δ' M' q σ' F' H' R s => g _ _ q _ F' H' (R.rebase l) (s.forget i)
theorem goS_le {F F1 : Hp} {k : Sl → Sto → Prop} {Q : L2.St → Hp → Prop} (g : GoS W F k Q) (l : Le F F1) : GoS W F1 k Q := fun δ' M' q σ' F' H' R s => g _ _ q _ F' H' (R.rebase l) s
theorem GoE.le {F F1 : Hp} {k : DKt} {Q : VK} (g : GoE W F k Q) (l : Le F F1) : GoE W F1 k Q := fun d M' q v F' H' R r => g d M' q v F' H' (R.rebase l) r
theorem goD_le {F F1 : Hp} {d : EndD} {Dn : Ends} (g : GoD W F d Dn) (l : Le F F1) : GoD W F1 d Dn := ⟨goS_le g.nx l, g.rt.le l, goS_le g.bk l, goS_le g.ct l⟩
theorem goD_gone {F F1 : Hp} {i : Nat} {d : EndD} {Dn : Ends} (g : GoD W F d Dn) (l : Le F F1) : GoD W F1 (goneD i d) (goneE i Dn) := ⟨goS_gone g.nx l, g.rt.le l, goS_gone g.bk l, goS_gone g.ct l⟩
/-- the clauses' wish, D's and the hand layer's -/
theorem wcl_of {Wo : WX} {E : L2.St → XK} (hE : ∀ cls d σ H, E σ cls d H → Wo cls d σ H) {F : Hp} {d : EndD} {Dn : Ends} (gd : GoD W F d Dn) {σ : L2.St} {δ : Sl} {F1 : Hp} (l1 : Le F F1) (hs : Stt F1 σ δ) (gx : GoX W F1 (eS δ) (E σ)) :
    ∀ (l : List ClD), GoX W F1 (wClD eS d l δ) (fun cls d' H => wCl Wo Dn (l.map (toCl W)) cls d' σ H)
  | [] => fun C fs M' q dd vs F' H' R e r => hE _ _ _ _ (gx C fs M' q dd vs F' H' R e r)
  | c :: l => fun C fs M' q dd vs F' H' R e r => by
    have q : (match c.m C with
      | some true => ∀ a, (match c.i with | some i => c.ts a C fs (goneD i d) (δ.set i (some (.ref a))) M' | none => c.ts a C fs d δ M')
      | some false => wClD eS d l δ C fs M'
      | none => False) := q
    cases hm : c.m C with
    | none => rw [hm] at q; exact q.elim
    | some b =>
      rw [hm] at q
      refine ⟨b, hm, fun hb a na => ?_, fun hb => ?_⟩
      · subst hb
        obtain ⟨R2, l2⟩ := R.know (p := dd) e (R.xd_free e)
        have q := q a
        have hs2 := hs.le (R.base.trans l2)
        have lF : Le F (upd F' dd (.xd ((fs.map (·.1)).zip vs))) := l1.trans (R.base.trans l2)
        show (match c.i with | some i => tsV W c.ts a (.ref C) (some dd) (goneE i Dn) (σ.set i (some (.ref a))) H' | none => tsV W c.ts a (.ref C) (some dd) Dn σ H')
        cases hi : c.i with
        | some i =>
          rw [hi] at q
          exact ⟨C, dd, fs, vs, _, rfl, rfl, upd_same, r.le l2, δ.set i (some (.ref a)), _, M', _, hs2.set i rfl, R2.here, q, goD_gone gd lF⟩
        | none =>
          rw [hi] at q
          exact ⟨C, dd, fs, vs, _, rfl, rfl, upd_same, r.le l2, δ, _, M', _, hs2, R2.here, q, goD_le gd lF⟩
      · subst hb
        exact wcl_of hE gd l1 hs gx l C fs M' q dd vs F' H' R e r
def dTry (tb : (Sl → XKD) → TSD) (eS : Sl → XKD) (l : List ClD) : TSD := fun d δ M => tb (wClD eS d l) d δ M
theorem psd_try (hN : X.N.Nodup) (hR : RzD W F0 X eS)
    (hb : ∀ (pn : List (Addr × Obj)) (xe : Value → Shared → Prop) (F1 : Hp) (e : Sl → XKD), Le F0 F1 → RzD W F1 (X.tr pn xe) e → PassesOwn (model X.prog X.w) X.A X.env xe → PSsD W F1 (X.tr pn xe) body (tb e)) (hh : ClOk X (h0 :: hds) (l.map (toCl W)))
    (hs : X.stack = X.env :: X.outer := by rfl) (hf : X.env.frame = some X.env.locals := by rfl) : PSD W F0 X (.Try body (h0 :: hds) [] [] pos) (dTry tb eS l) := by
  obtain ⟨E, tk, gx⟩ := hR
  refine PS.wk (ps_tryC (tb := fun Wx Dn σ H => ∃ (e : Sl → XKD) (F1 : Hp) (E1 : L2.St → XK), Le F0 F1 ∧ (∀ cls d σ H, E1 σ cls d H → Wx cls d σ H) ∧ (∀ σ δ F, Le F1 F → Stt F σ δ → GoX W F (e δ) (E1 σ)) ∧ LS W F1 (tb e) Dn σ H) hs hf hN tk (fun Wx pn xe tk2 po => ?_) hh) fun Dn σ H ⟨δ, F, M, d, hst, R, h, gd⟩ => ?_
  · exact ⟨fun pins s σ H Dn I ⟨e, F1, E1, l1, h1, h2, q⟩ => (hb pn xe F1 e l1 ⟨E1, tk2.imp h1, h2⟩ po).run pins s σ H Dn I q⟩
  · exact ⟨wClD eS d l, F, fun σ cls d' H => wCl (fun cls d σ H => E σ cls d H) Dn (l.map (toCl W)) cls d' σ H, R.base, fun _ _ _ _ z => z, fun σ' δ' F' l' s' => wcl_of (fun _ _ _ _ z => z) gd l' s' (gx σ' δ' F' (R.base.trans l') s') l, δ, F, M, d, hst, R.here, h, gd⟩
end
/-! ### in a suite: isinstance(e, C), e.f, comprehensions -/
structure ExD (K : PySem.W.Frag) (C : Addr) : Prop where
  cl : (PySem.W.clsIn K C).isSome = true
  ga : PySem.W.findIn K (.ref C) "__getattribute__" = some (some (.builtin "BaseException.__getattribute__"))
  gt : PySem.W.findIn K (.ref C) "__getattr__" = some none
  sub : PySem.W.subIn K (.ref C) (.type "BaseException") = some true
  ha : PySem.W.findIn K (.ref C) "__class__" = some (some (.builtin "object.__class__"))
  hn : PySem.W.specialIn K (.builtin "object.__class__") "__get__" = some (some (.builtin "getset_descriptor.__get__"))
  ht : PySem.W.takesIn K (.builtin "object.__class__") = some true
  hm : PySem.W.mroIn K C (.type "object") = some true
  hd : PySem.W.hasDictIn K C = true
def rIsED (K : PySem.W.Frag) (C a : Addr) : RnD := fun ds M k => match ds with
  | [.ref b, .ref c] => b = a ∧ ∃ r, PySem.W.kitOne K (.ref C) (.ref c) = some r ∧ k (.bl r) M
  | [.ref b, .ty n] => b = a ∧ ∃ r, PySem.W.kitOne K (.ref C) (.type n) = some r ∧ k (.bl r) M
  | _ => False
section
variable {W : Wd} {F0 : Hp} {X : Cx} {a C dd : Addr} {oe : Obj} {pn : List (Addr × Obj)} {fs : List (Str × D)} {vs : List V}
theorem suite_inst {pins : List (Addr × Obj)} {σ : L2.St} {H : Hp} {s : Shared} {zs : List (Str × V)} (I : Inv (X.suite a ((a, oe) :: pn)) pins σ H s) (z : L2N.Zn (.ref C) (some dd) oe) (hf : ∃ vs, oe.data = .fields vs) (hd : H dd = some (.xd zs)) : ∃ od, PySem.W.InstAt s.heap a oe C (some od) := by
  obtain ⟨ha, _⟩ := I.pin (a, oe) (List.mem_append_left _ List.mem_cons_self)
  have hx : ObjOk X.prog X.w H s.heap dd (.xd zs) := I.hok dd _ hd
  obtain ⟨mA, hns, hr⟩ := hx
  obtain ⟨od, ho, hl⟩ := lookIn_ns hns
  obtain ⟨ws, hw⟩ := hf
  exact ⟨od, ha, z.1, by unfold PySem.W.notCls; rw [hw] <;> rfl, by rw [z.2.1]; exact ho⟩
theorem cd_isE (T : ExD X.K C) (z : L2N.Zn (.ref C) (some dd) oe) (hf : ∃ vs, oe.data = .fields vs) {zs : List (Str × V)} (hd : F0 dd = some (.xd zs)) :
    CallR (X.suite a ((a, oe) :: pn)) (.builtin "isinstance") (fun vs H Q => (∃ F M, Rep W F0 F M H) ∧ LRn W (rIsED X.K C a) vs H Q) := by
  intro pins s σ H vs us Q I r ⟨⟨F1, M1, R1⟩, F, M, k, ds, R, rd, h, g⟩
  obtain ⟨od, J⟩ := suite_inst I z hf (R1.le _ _ (R1.base _ _ hd))
  have kx := PySem.W.kitx_exc (od := some od) (x := a) (ox := oe) T.cl T.ga T.gt T.sub T.ha T.hn T.ht T.hm
  unfold rIsED at h
  split at h
  · obtain ⟨e1, b, e2, hk⟩ := h
    subst e1
    obtain ⟨v, _, rfl, rv, v2, _, rfl, rv2, rfl⟩ := rd
    cases rv; cases rv2
    cases r with
    | cons r1 rr =>
      cases rr with
      | cons r2 rr =>
        cases rr; cases r1; cases r2
        exact PySem.W.kia_one kx I.kIn J e2 (fun z => nomatch z) fun tk => ⟨.bl b, H, I.kept (t' := tk) fun _ _ z => z, rfl, g _ _ hk _ F H R rfl⟩
  · obtain ⟨e1, b, e2, hk⟩ := h
    subst e1
    obtain ⟨v, _, rfl, rv, v2, _, rfl, rv2, rfl⟩ := rd
    cases rv; cases rv2
    cases r with
    | cons r1 rr =>
      cases rr with
      | cons r2 rr =>
        cases rr; cases r1; cases r2
        exact PySem.W.kia_one kx I.kIn J e2 (fun z => nomatch z) fun tk => ⟨.bl b, H, I.kept (t' := tk) fun _ _ z => z, rfl, g _ _ hk _ F H R rfl⟩
  · exact h.elim
theorem pd_isE {e : Expr} {es : List Expr} {p pos : Pos} {t : TAD} {zs : List (Str × V)} (T : ExD X.K C) (z : L2N.Zn (.ref C) (some dd) oe) (hf : ∃ vs, oe.data = .fields vs) (hd : F0 dd = some (.xd zs)) (hm : X.mg "isinstance" = none) (hg : Gl X "isinstance") (ha : PAD W F0 (X.suite a ((a, oe) :: pn)) (e :: es) t)
    (he : starEach (e :: es) X.env = (false, eval e X.env) :: starEach es X.env := by rfl) (hpl : (backTo pos (starEach es X.env)).any (·.1) = false := by rfl) :
    PED W F0 (X.suite a ((a, oe) :: pn)) (.Call (.Name "isinstance" p) (e :: es) [] pos) (dCB (rIsED X.K C a) t) :=
  PE.wk (pe_callB (X := X.suite a ((a, oe) :: pn)) (cd_isE T z hf hd) hg hm PyProof.Rows.boot_isinstance ha (by decide) (by decide) he hpl) fun σ H Q ⟨δ, F, M, k, hs, R, h, g⟩ => ⟨δ, F, M, _, hs, R, h, fun ds M1 h1 vs F1 H1 R1 r1 =>
    ⟨⟨F1, M1, R1.rebase R.base⟩, F1, M1, k, ds, R1.here, r1, h1, fun d3 M3 h3 v3 F3 H3 R3 r3 => g _ _ h3 _ _ _ (R3.rebase R1.base) r3⟩⟩
theorem zip_lookup {F : Hp} {n : Str} {d : D} : ∀ {fs : List (Str × D)} {vs : List V}, Rds F (fs.map (·.2)) vs → fs.lookup n = some d → ∃ v, ((fs.map (·.1)).zip vs).lookup n = some v ∧ Rdd F d v
  | [], _, _, h => by cases h
  | (f, d') :: fs, _, ⟨x, r, e, q, t⟩, h => by
    subst e
    show ∃ v, ((f, x) :: ((fs.map (·.1)).zip r)).lookup n = some v ∧ _
    rw [lookup_put]
    by_cases hn : n = f
    · rw [if_pos hn]
      subst hn
      simp [List.lookup] at h
      subst h
      exact ⟨x, rfl, q⟩
    · rw [if_neg hn]
      have e : (n == f) = false := by simpa using hn
      simp [List.lookup, e] at h
      exact zip_lookup t h
def dXf (a : Addr) (fs : List (Str × D)) (n : Str) (te : TED) : TED := fun δ M k => te δ M fun x M1 => match x, fs.lookup n with | .ref b, some d => b = a ∧ k d M1 | _, _ => False
theorem pd_xf {e : Expr} {te : TED} {n : Str} {pos : Pos} (T : ExD X.K C) (hno : PySem.W.findIn X.K (.ref C) n = some none) (z : L2N.Zn (.ref C) (some dd) oe) (hf : ∃ vs, oe.data = .fields vs) (hd : F0 dd = some (.xd ((fs.map (·.1)).zip vs))) (hr : Rds F0 (fs.map (·.2)) vs)
    (he : PED W F0 (X.suite a ((a, oe) :: pn)) e te) (hb : attributeBase e n X.env (eval e X.env) = eval e X.env := by rfl) : PED W F0 (X.suite a ((a, oe) :: pn)) (.Attribute e n pos) (dXf a fs n te) :=
  PE.wk (pe_xf ⟨T.ga, T.gt, T.sub, T.hd⟩ hno z.zc hf he hb) fun σ H Q ⟨δ, F, M, k, hs, R, h, g⟩ => ⟨δ, F, M, _, hs, R, h, fun x M1 h1 v F1 H1 R1 r1 => by
    cases x with
    | ref b =>
      cases ed : fs.lookup n with
      | some d =>
        rw [ed] at h1
        obtain ⟨e1, hk⟩ := h1
        subst e1
        obtain ⟨w, ew, rw'⟩ := zip_lookup (hr.le (R.base.trans R1.base)) ed
        exact ⟨r1, rfl, dd, _, w, rfl, R1.le _ _ (R1.base _ _ (R.base _ _ hd)), ew, g _ _ hk _ F1 H1 R1 rw'⟩
      | none => rw [ed] at h1; exact h1.elim
    | _ => exact h1.elim⟩
end
def PIDB (W : Wd) (F0 : Hp) (X : Cx) (tg iter : Expr) (t : TID) : Prop := PIB X tg iter (LI W F0 t)
section
variable {W : Wd} {F0 : Hp} {X : Cx} {pos : Pos} {e tg iter : Expr} {ta te : TED} {tt : TTD} {g : TGD} {gv : TG} {ti : TID}
theorem pidB_list (hW : X.K = W.K) (h : PED W F0 X e te) : PIDB W F0 X tg e (dItL te) :=
  ⟨fun {pins s σ H R'} I ⟨δ, F, M, k, hs, Rp, h', gg⟩ => (piB_list h).run I ⟨δ, F, M, _, hs, Rp, h', fun d M1 h1 v F1 H1 R1 r1 => by
    cases d with
    | lst ds =>
      obtain ⟨a, xs, rfl, ea, rr⟩ := r1
      exact ⟨a, rfl, ⟨xs, SqL.of (R1.le _ _ ea)⟩, hW ▸ gg ds M1 h1 _ F1 H1 R1 (gives_list ea rr)⟩
    | _ => exact h1.elim⟩⟩
theorem pd_lcB {elt : Expr} {ifs : List Expr} {scope : Scope} {own : List (Str × Nat)} (hc : HotB X) (hN : X.N.Nodup) (hi : PIDB W F0 X tg iter ti) (ok : BlkOk X.N X.env.scope scope own) (sg : SimG W gv g (own.map (·.2)))
    (hg : ∀ (s : Shared) (H : Hp) (C : Addr) (cl : List (Str × Addr)) (fp : List Addr), HotB (X.blk s H scope (compEnvC scope cl C X.env) fp) → PG (X.blk s H scope (compEnvC scope cl C X.env) fp) tg gv) (ht : ∀ (s : Shared) (H : Hp) (C : Addr) (cl : List (Str × Addr)) (fp : List Addr), PTsD W F0 (X.blk s H scope (compEnvC scope cl C X.env) fp) ifs tt)
    (he : ∀ (s : Shared) (H : Hp) (C : Addr) (cl : List (Str × Addr)) (fp : List Addr), PED W F0 (X.blk s H scope (compEnvC scope cl C X.env) fp) elt te) (hs : ∀ x, foldedSetIterable iter X.env x = pure x := by intro _; rfl) :
    PED W F0 X (.ListComp elt [⟨tg, iter, ifs, 0⟩] scope pos) (dLc ti g tt te (own.map (·.2))) :=
  PE.wk (pe_lcB hc hN hi ok hg ht he hs) fun σ H Q ⟨δ, F, M, k, hst, R, h, gg⟩ => tLc_of (kd := fun p acc M2 => k (.lst acc) M2) sg hst R h (fun ds M1 q p np => q p np) fun p acc M2 F2 H2 kq n2 R2 => by
    obtain ⟨hF2, xs, ex, rx⟩ := R2.mo p _ updM_same
    obtain ⟨R3, r3⟩ := R2.freezeL updM_same ex rx
    rw [delM_upd n2] at R3
    exact gg _ _ kq _ _ _ R3 r3
end
end DL
set_option maxHeartbeats 4000000
namespace DL
open PySem PySem.Spec L2 LamX
open PyProof.Rows (envOfC)

/-- the context of a lambda's body; what it raises has no context -/
def lamN (X : Cx) (A : Around) (outer : List Env) (s : Shared) (H : Hp) (E : XK) (scope : Scope) (f c' : Addr) : Cx :=
  (lamCx X A outer s H E scope f c').tr [] (fun e s' => wpAny (model X.prog X.w) (A.deeper (lamEnv X scope s.heap.objs.size f c')) (leaving (lamEnv X scope s.heap.objs.size f c') e) (fun _ s'' => L2N.CX X.prog X.w outer H s E e s'') (fun e' s'' => L2N.CX X.prog X.w outer H s E e' s'') s')
theorem takes_lamN {X : Cx} {A : Around} {outer : List Env} {s : Shared} {H : Hp} {E : XK} {scope : Scope} {f c' : Addr} : L2N.Takes (lamN X A outer s H E scope f c') (fun cls d _ H => E cls d H) := L2N.takes_of rfl rfl rfl rfl
theorem Rep.code_free {W : Wd} {F0 F : Hp} {M : Sto} {H : Hp} {p : Addr} {P : Heap → Prop} (R : Rep W F0 F M H) (h : H p = some (.ext P)) : M p = none := by
  cases e : M p with
  | none => rfl
  | some m =>
    have q := (R.mo p m e).2
    cases m with
    | lst ds => obtain ⟨xs, z, _⟩ := q; rw [h] at z; cases z
    | dic kvs => obtain ⟨xs, z, _⟩ := q; rw [h] at z; cases z
    | deck ws => obtain ⟨_, _, _, _, _, _, _, _, z, _⟩ := q; rw [h] at z; cases z
    | part => obtain ⟨xs, z⟩ := q; rw [h] at z; cases z
section
variable {X : Cx} {pins : List (Addr × Obj)} {σ : L2.St} {H : Hp} {s : Shared}
/-- x() in the def that got the lambda -/
theorem pe_actN {Eg : XK} {Ng : List Str} {qg : Str} {sg : Scope} {g f c' : Addr} {cdg pm ctv : Value} {params : Arguments} {body : Expr} {scope : Scope} {k i : Nat} {a : Str} {pn : List (Addr × Obj)} {xe : Value → Shared → Prop} {E : L2.St → XK} {tb : XK → TE} {p1 p2 : Pos}
    (I : Inv X pins σ H s) (L : LamS X.env.scope scope) (hf : s.heap.get? f = some (PySem.W.kla_obj "<lambda>" (X.env.qual ++ "<lambda>") params body scope (cloFrom X.env.cells scope.names []) pm c' ctv)) (hfn : H f = none) (hfr : f ∉ frs X.stack)
    (hbind : bindArgs (PySem.W.kla_fn "<lambda>" (X.env.qual ++ "<lambda>") params body scope (cloFrom X.env.cells scope.names []) pm (.ref c') ctv) ⟨[], []⟩ = pure [])
    (tk : L2N.Takes ((cxOf CX0 X.prog X.w X.K X.mg X.base Ng qg sg g cdg X.A X.stack s H Eg).tr pn xe) (fun cls d σ H => E σ cls d H)) (hr : Room (k + 1) (X.A.deeper (envOfC qg sg s.heap.objs.size g cdg)))
    (hbody : ∀ (A : Around) (outer : List Env) (s : Shared) (H : Hp) (E : XK), Room k (A.deeper (lamEnv X scope s.heap.objs.size f c')) → PE (lamN X A outer s H E scope f c') body (tb E))
    (hN : Ng[i]? = some a) (hv : Vis sg a) (hd : (a == ("__debug__" : Str)) = false) (hcd : (a == ("__classdict__" : Str)) = false) :
    PE ((cxOf CX0 X.prog X.w X.K X.mg X.base Ng qg sg g cdg X.A X.stack s H Eg).tr pn xe) (.Call (.Name a p1) [] [] p2) (fun σZ HZ Q => σZ[i]? = some (some (.ref f)) ∧ HZ c' = some (CodeO c' (X.env.qual ++ "<lambda>")) ∧ tb (E σZ) σ HZ Q) :=
  ⟨fun pinsZ sZ σZ HZ Q IZ ⟨hs, hc, ht⟩ => wpAny_Call_Name_kw (thn ((pe_var (pos := p1) (i := i) hN hv hd hcd).run pinsZ sZ σZ HZ (fun v H1 => v = .ref f ∧ H1 = HZ) IZ ⟨.ref f, hs, rfl, rfl⟩) fun u s1 ⟨v, H1, I1, r1, ev, eH⟩ => by
    subst ev
    rw [eH] at I1
    obtain rfl : u = Value.ref f := r1
    have fat := I1.base.keep f _ hf hfn hfr (fun z => nomatch (show f ∈ ([] : List Addr) from z))
    refine PySem.W.callWith_F0 ⟨_, _, _, _, fat⟩ ?_
    obtain ⟨⟨oc, vs, t, hoc, hdc, hvc⟩, _, _⟩ := I1.hok c' _ hc
    have rc : codeAny (model X.prog X.w) (X.A.deeper (envOfC qg sg s.heap.objs.size g cdg)) (.call (.ref f) ⟨[], []⟩) (CR (L2N.CX X.prog X.w) (envOfC qg sg s.heap.objs.size g cdg :: X.stack) X.prog X.w HZ s1 Q (E σZ)) s1 := by
      refine PySem.W.kla_callFunE hr.depth fat rfl L.co L.gen rfl ⟨c', oc, vs, t, rfl, hoc, hdc, hvc⟩ ?_
      rw [hbind]
      refine wpAny_pure (wpAny_newFunctionEnv (fun y hy => (L.own y hy).2) (fun y hy => absurd hy (by simp)) (fun h1 hns hsb => And.intro (I1.nolimit.fresh _ hsb) ?_) L.kind)
      refine (show codeAny _ _ (.expr body (lamEnv X scope s1.heap.objs.size f c')) _ _ from ?_)
      have kp : ∀ b o, s1.heap.get? b = some o → h1.get? b = some o := fun b o e => hsb.extBut b o (Nat.ne_of_lt (Heap.lt_size e)) (Heap.get?_push_of_some _ e)
      have J := lam_start2 (E := E σZ) I L I1.env0 hr.hd (show Un (frs X.stack) [] H HZ s.heap s1.heap from I1.base) hns kp (f := f) (c' := c') (tk := s1.toks + ([] : List (Str × Value)).length)
      refine PySem.W.kla_codeExpr (wpAny_mono ((hbody _ _ s1 HZ (E σZ) (hr.deeper _)).run [] _ _ HZ Q (J.toTry _) ht) (fun v s' ⟨w', H', J', rv, q⟩ => ?_) fun e s' hq => hq)
      exact ⟨w', H', J'.os, J'.bare, J'.base, J'.hok, rv, q⟩
    refine wpAny_call (codeAny_mono rc fun r s' hq => ?_)
    rcases r with er | fl
    · exact tk er s' (L2N.XE.of_call I1 (fun _ _ _ h => h) hq)
    · rcases fl with _ | _ | _ | u
      iterate 3 exact False.elim hq
      exact I1.after hq)⟩
end
/-! ### x(lambda: body) -/
/-- what the def that gets the lambda makes of it: tl is the lambda's reading -/
abbrev TrD := (XKD → Sto → DKt → Prop) → Sto → DKt → Prop
def GivesD (W : Wd) (X : Cx) (k : Nat) (Ng : List Str) (x : Str) (sg : Scope) (g : Addr) (cdg : Value) (bg : List Stmt) (a : Str) (TT : TrD) : Prop :=
  ∀ (f : Addr) (s : Shared) (H : Hp) (F0 : Hp) (M : Sto) (kk : DKt) (tl : XKD → Sto → DKt → Prop), Room k (X.A.deeper (envOfC x sg s.heap.objs.size g cdg)) →
    (∀ (pn : List (Addr × Obj)) (xe : Value → Shared → Prop) (F1 : Hp) (eS : Sl → XKD) (p1 p2 : Pos), Le F0 F1 → RzD W F1 ((cxOf CX0 X.prog X.w X.K X.mg X.base Ng x sg g cdg X.A X.stack s H E0).tr pn xe) eS →
      PED W F1 ((cxOf CX0 X.prog X.w X.K X.mg X.base Ng x sg g cdg X.A X.stack s H E0).tr pn xe) (.Call (.Name a p1) [] [] p2) (fun δ M k => δ[0]? = some (some (.ref f)) ∧ tl (eS δ) M k)) → TT tl M kk →
    ∃ t : TSD, PSsD W F0 (cxOf CX0 X.prog X.w X.K X.mg X.base Ng x sg g cdg X.A X.stack s H E0).nox bg t ∧ t { nx := fun _ M' => kk .non M', rt := kk } (startD Ng [.ref f]) M
def dLam (TT : TrD) (tb : XKD → TED) : TED := fun δ M k => TT (fun e M' k' => tb e δ M' k') M k
theorem pd_lam {W : Wd} {F0 : Hp} {X : Cx} {TT : TrD} {x a : Str} {g c P : Addr} {k : Nat} {qual : Str} {st : Stmt} {fd : FuncData} {Ng : List Str} {params : Arguments} {body : Expr} {scope : Scope} {tb : XKD → TED} {p lpos pos : Pos}
    (Fg : L2.Fun X.K x x st g fd) (hm : X.mg x = some (.ref g)) (hb : Binds X.K fd [a] []) (Sg : FnScope Ng [a] (defScope st)) (hNg : Ng[0]? = some a) (hva : Vis (defScope st) a)
    (hG : ∀ cdg, GivesD W X (k + 1) Ng x (defScope st) g cdg (defBody st) a TT) (TB : TabB X.base X.mg c P) (hcode : X.env.code = .ref c) (hmT : (P, X.env.qual ++ "<lambda>") ∈ W.T) (hu : ∀ p ∈ W.T, p.1 = P → p.2 = X.env.qual ++ "<lambda>") (hr : Room (k + 2) X.A) (L : LamS X.env.scope scope)
    (hbind : ∀ (q : Str) (cl : List (Str × Addr)) (pm cv ctv : Value), bindArgs (PySem.W.kla_fn "<lambda>" q params body scope cl pm cv ctv) ⟨[], []⟩ = pure [])
    (hbody : ∀ (A : Around) (outer : List Env) (s : Shared) (H : Hp) (E : XK) (f c' : Addr) (F1 : Hp) (e : XKD), Le F0 F1 → Room k (A.deeper (lamEnv X scope s.heap.objs.size f c')) → RzD W F1 (lamN X A outer s H E scope f c') (fun _ => e) → PED W F1 (lamN X A outer s H E scope f c') body (tb e))
    (hdef : defaultsOf params X.env = ([], []) := by rfl) (hg : Gl X x := by rfl) (hdb : (x == ("__debug__" : Str)) = false := by decide) (hd : (a == ("__debug__" : Str)) = false := by decide) (hcd : (a == ("__classdict__" : Str)) = false := by decide) :
    PED W F0 X (.Call (.Name x p) [.Lambda params body scope lpos] [] pos) (dLam TT tb) := by
  obtain ⟨oc, od, kV, doc, pm, an, cdv, ct, osl, rfl, lk, hcg⟩ := Fg.ex
  refine ⟨fun pins s σ H Q I ⟨δ, F, M, kk, hs, R, h, gq⟩ => wpAny_Call_Name_kw (ld_glob I hg hm (PySem.W.callWith_K (h₀ := X.base) I.ok.mod.kin Fg.kp ?_ (by rfl) (by rfl)) hdb)⟩
  refine (show wpAny _ _ (spliced ((false, eval (.Lambda params body scope lpos) X.env) :: backTo pos (starEach [] X.env))) _ _ s from Calls.spliced_cons (lam_make2 I TB hcode hmT hu R.tabs hdef (L.has I.ok) fun f c' pm' ctv H1 s' I1 eN T1 hf hfn hfr hco => Calls.spliced_nil (And.intro I1.kIn ?_)))
  have R1 := R.ext eN T1
  obtain ⟨R2, l2⟩ := R1.know hco (R1.code_free hco) (codeO_ne ·)
  have rc : codeAny (model X.prog X.w) X.A (.call (.ref g) ⟨[.ref f], []⟩) (CR CX0 X.stack X.prog X.w H1 s' Q E0) s' := by
    refine run_ofS (N := Ng) (ps := [a]) (us := [.ref f]) (vs := [.ref f]) lk hcg Sg hr I1.env0 (hb s' [.ref f] I1.kIn rfl) (.cons rfl .nil) rfl fun hr' => ?_
    have key := hG cdv f s' H1 (upd F c' (CodeO c' (X.env.qual ++ "<lambda>"))) M kk (fun e M' k' => tb e δ M' k') hr'
    obtain ⟨t, ht, hq⟩ := key (by
      intro pn xe F1 eS p1 p2 l1 hR
      obtain ⟨E, tk, gx⟩ := hR
      have act := pe_actN (Eg := E0) (p1 := p1) (p2 := p2) (i := 0) (E := E) (tb := fun E => (fun σ H Q => ∃ (δ : Sl) (F : Hp) (M : Sto) (k : DKt) (e : XKD), Le F0 F ∧ Stt F σ δ ∧ Rep W F F M H ∧ tb e δ M k ∧ GoE W F k Q ∧ GoX W F e E)) I1 L hf hfn hfr (hbind _ _ _ _ _) tk hr'
        (fun A outer s H E hr2 => ⟨fun pins s σ H Q I ⟨δ, F, M, k, e, l0, q1, q2, q3, q4, q5⟩ => (hbody A outer _ _ E f c' F e l0 hr2 ⟨fun _ => E, takes_lamN, fun _ _ _ l _ => q5.mono l⟩).run pins s σ H Q I ⟨δ, F, M, k, q1, q2, q3, q4⟩⟩) hNg hva hd hcd
      refine PE.wk act fun σZ HZ Q ⟨δZ, FZ, MZ, kZ, hsZ, RZ, ⟨hf0, hZ⟩, gZ⟩ => ?_
      obtain ⟨v, ev, rv⟩ := hsZ.2 0 _ hf0
      have lZ : Le F FZ := l2.trans (l1.trans RZ.base)
      exact ⟨by rw [ev, show v = .ref f from rv], RZ.le _ _ (RZ.base _ _ (l1 _ _ upd_same)), δ, FZ, MZ, kZ, eS δZ, R.base.trans lZ, hs.le lZ, RZ.here, hZ, gZ, gx σZ δZ FZ RZ.base hsZ⟩) h
    exact ⟨_, PSs.nox ht, startD Ng [.ref f], _, M, _, stt_start (vs := [.ref f]) ⟨_, _, rfl, rfl, rfl⟩, R2.here, hq, fun δ' M' q' σ' F' H' R' s' => gq _ _ q' _ F' H' (R'.rebase l2) rfl, gq.le l2, fun _ _ z => z.elim, fun _ _ z => z.elim⟩
  refine wpAny_call (codeAny_mono rc fun r s2 hq => ?_)
  rcases r with er | fl
  · exact (show False from hq).elim
  · cases fl <;> first | exact I1.after hq | exact False.elim hq
end DL
set_option maxHeartbeats 2000000
namespace DL
open PySem PySem.Spec L2
section
variable {W : Wd} {F0 : Hp} {X : Cx} {pos : Pos} {a b c e i o : Expr} {ta tb tc te td ty tx tv : TED}
/-! ### xs.pop() -/
def dPop (to : TED) : TED := fun δ M k => to δ M fun x M1 => match x with
  | .ref a => (match M1 a with | some (.lst ds) => (match ds.getLast? with | some d => k d (updM M1 a (.lst ds.dropLast)) | none => False) | _ => False)
  | _ => False
theorem Rds.dropLast {F : Hp} {ds : List D} {xs : List V} (r : Rds F ds xs) : Rds F ds.dropLast xs.dropLast := by
  rw [List.dropLast_eq_take, List.dropLast_eq_take, r.length]
  exact r.take _
theorem pd_pop {apos cpos : Pos} (ho : PED W F0 X o td) (hbase : attributeBase o "pop" X.env (eval o X.env) = eval o X.env := by rfl) (hline : (apos.endLine == cpos.line) = true := by rfl) : PED W F0 X (.Call (.Attribute o "pop" apos) [] [] cpos) (dPop td) :=
  PE.wk (pe_bm0 PySem.F.plainAttrs_list PySem.F.slot_list_pop PySem.F.type_list_pop mt_pop ho hbase hline) fun σ H Q ⟨δ, F, M, k, hst, R, h, g⟩ => ⟨δ, F, M, _, hst, R, h, fun x M1 h1 v F1 H1 R1 r1 => by
    cases x with
    | ref a =>
      have h1 : (match M1 a with | some (.lst ds) => (match ds.getLast? with | some d => k d (updM M1 a (.lst ds.dropLast)) | none => False) | _ => False) := h1
      split at h1
      · rename_i ds em
        split at h1
        · rename_i d ed
          obtain rfl : v = .ref a := r1
          obtain ⟨hF, xs, q, t⟩ := R1.mo a _ em
          rw [List.getLast?_eq_getElem?] at ed
          obtain ⟨w, ew, rw'⟩ := t.get ed
          rw [t.length] at ew
          refine ⟨.inl ⟨rfl, _, SqL.of q⟩, a, xs, w, rfl, rfl, q, ew, ?_⟩
          have Rw := R1.write (m' := .lst ds.dropLast) (o := .lst xs.dropLast) em (fun _ z => by cases z) (fun _ z => by cases z) (by rw [q]; trivial) ⟨_, upd_same, t.dropLast⟩
          exact g _ _ h1 _ _ _ Rw rw'
        · exact h1.elim
      · exact h1.elim
    | _ => exact h1.elim⟩
/-! ### a list, changeable or not, beside [] -/
def rEqL (neg : Bool) : R2D := fun x y M k => match lstOf M x, y with
  | some ds, .lst [] => k (.bl (if neg then !ds.isEmpty else ds.isEmpty)) M
  | _, _ => False
theorem eqL_aux {pins : List (Addr × Obj)} {s : Shared} {σ : L2.St} {H : Hp} {F0 F : Hp} {M : Sto} {x : D} {vx vy : V} {v u : Value} {ds : List D} (hu : X.A.units < cLine) (I : Inv X pins σ H s) (R : Rep W F0 F M H) (es : lstOf M x = some ds) (rd : Rdd F x vx) (re : Rdd F (.lst []) vy) (rx : RelV vx v) (ry : RelV vy u) :
    ∃ a b its its2, v = .ref a ∧ u = .ref b ∧ s.heap.IsList a its ∧ s.heap.IsList b its2 ∧ its.size = ds.length ∧ its2.size = 0 := by
  obtain ⟨a, xv, rfl, t, q⟩ := lstOf_at R es rd
  obtain ⟨b, yv, rfl, eb, rb⟩ := re
  cases rb
  cases rx; cases ry
  obtain ⟨its, r1, p1, z1⟩ := I.list (SqL.of q)
  obtain ⟨its2, r2, p2, z2⟩ := I.list (SqL.of (R.le _ _ eb))
  exact ⟨a, b, _, _, rfl, rfl, p1.isList, p2.isList, by rw [List.size_toArray, ← r1.length, t.length], by rw [List.size_toArray, ← r2.length]; rfl⟩
theorem od_eqL (hu : X.A.units < cLine) : OpD W X (compareOp .Eq) (rEqL false) := by
  intro pins s σ H x y v u Q I rx ry ⟨F, M, k, d, e, R, rd, re, h, g⟩
  unfold rEqL at h
  split at h
  · rename_i ds es
    obtain ⟨a, b, its, its2, rfl, rfl, p1, p2, z1, z2⟩ := eqL_aux hu I R es rd re rx ry
    cases ds with
    | nil => exact SeqAt.eq_listAt (e := fun _ => true) p1 p2 (by rw [z1, z2]; rfl) hu (fun j h1 _ => absurd h1 (by rw [z1]; simp)) ⟨.bl true, H, I, by show Value.bool _ = Value.bool true; rw [z1]; rfl, g _ _ h _ F H R rfl⟩
    | cons _ _ => exact SeqAt.eq_list_lengthsAt p1 p2 (by rw [z1, z2]; simp) hu ⟨.bl false, H, I, rfl, g _ _ h _ F H R rfl⟩
  · exact h.elim
theorem od_neL (hu : X.A.units < cLine) : OpD W X (compareOp .NotEq) (rEqL true) := by
  intro pins s σ H x y v u Q I rx ry ⟨F, M, k, d, e, R, rd, re, h, g⟩
  unfold rEqL at h
  split at h
  · rename_i ds es
    obtain ⟨a, b, its, its2, rfl, rfl, p1, p2, z1, z2⟩ := eqL_aux hu I R es rd re rx ry
    cases ds with
    | nil => exact SeqAt.RcNeAt.lists (e := fun _ => true) p1 p2 (by rw [z1, z2]; rfl) hu (fun j h1 _ => absurd h1 (by rw [z1]; simp)) _ _ _ _ ⟨.bl false, H, I, by show Value.bool _ = Value.bool false; rw [z1]; rfl, g _ _ h _ F H R rfl⟩
    | cons _ _ => exact SeqAt.RcNeAt.lists_lengths p1 p2 (by rw [z1, z2]; simp) hu _ _ _ _ ⟨.bl true, H, I, rfl, g _ _ h _ F H R rfl⟩
  · exact h.elim
/-! ### {k: v, ..} that may change -/
def dDispM (ps : List (Key × TED)) : TED := fun δ M k => ∀ p, M p = none → dPairs ps δ (updM M p (.dic [])) fun ds M1 => ∃ M2, M2 p = none ∧ M1 = updM M2 p (.dic []) ∧ k (.ref p) (updM M2 p (.dic ((ps.map (·.1)).zip ds)))
theorem pd_dispM {keys : List (Option Expr)} {values : List Expr} {ps : List (Key × TED)} (h : PPsD W F0 X pos keys values ps) (nd : (ps.map (·.1)).Nodup) (hall : keys.all (·.isSome) = true := by rfl) (hl : keys.length = values.length := by rfl) (h0 : keys ≠ [] := by simp)
    (h15 : keys.length ≤ 15 := by decide) (h16 : ps.length ≤ 15 := by decide) : PED W F0 X (.Dict keys values pos) (dDispM ps) :=
  PE.wk (pe_disp h hall hl h0 h15) fun σ H Q ⟨δ, F, M, k, hs, R, h, g⟩ p np => by
    have R1 : Rep W F F (updM M p (.dic [])) (upd H p (.dK [])) := R.here.newM np ⟨[], upd_same, rfl⟩
    refine pairs_of (hs.le R1.base) (R1.rebase R.base) (h p (R.fresh np).1) fun ds M1 ⟨M2, n2, e2, hk⟩ vs F2 H2 R2 r2 hlen => ?_
    subst e2
    obtain ⟨hF2, xs, ex, rx⟩ := R2.mo p _ updM_same
    cases rx
    have el : ((ps.map fun q => kV q.1).zip vs) = ((ps.map (·.1)).zip vs).map fun kv => (kV kv.1, kv.2) := by
      have e1 : (ps.map fun q => kV q.1) = (ps.map (·.1)).map kV := by rw [List.map_map]; rfl
      rw [e1, List.zip_map_left]
      rfl
    have ek : ((ps.map (·.1)).zip vs).map (·.1) = ps.map (·.1) := List.map_fst_zip (by simp [hlen])
    refine ⟨ex, (ps.map (·.1)).zip vs, el, by simp; omega, ?_⟩
    rw [merge_nodup _ _ (by rw [ek]; exact nd) (by simp), List.nil_append]
    have R3 := (R2.rebase R1.base).write (a := p) (m := .dic []) (m' := .dic ((ps.map (·.1)).zip ds)) (o := .dK ((ps.map (·.1)).zip vs)) updM_same (fun _ z => by cases z) (fun _ z => by cases z) (by rw [ex]; trivial)
      ⟨vs, by rw [upd_same, List.map_fst_zip (by rw [r2.length]; simp [hlen])], by rw [List.map_snd_zip (by rw [r2.length]; simp [hlen])]; exact r2⟩
    have e7 : updM (updM M2 p (.dic [])) p (.dic ((ps.map (·.1)).zip ds)) = updM M2 p (.dic ((ps.map (·.1)).zip ds)) := by
      funext b
      unfold updM
      split <;> rfl
    rw [e7] at R3
    exact g _ _ hk _ _ _ R3 rfl
end
/-! ### a deck, closed and open -/
def dkOpen (d : Dk) (l : Addr) (m n : Int) : List (Key × D) := [(.inr d.k1, .ref l), (.inr d.k2, .int m), (.inr d.k3, .int n)] ++ d.ex
def opened (M : Sto) (a l : Addr) (d : Dk) (cells : List Int) (m n : Int) : Sto := updM (updM M l (.lst (cells.map D.int))) a (.dic (dkOpen d l m n))
theorem rds_ints {F : Hp} : ∀ {ns : List Int} {xs : List V}, Rds F (ns.map D.int) xs → xs = ns.map V.int
  | [], _, h => h
  | n :: ns, _, ⟨x, r, e, q, t⟩ => by subst e; rw [show x = V.int n from q, rds_ints t]; rfl
section
variable {W : Wd} {F0 F : Hp} {M : Sto} {H : Hp} {a l : Addr} {d : Dk} {cells : List Int} {m n : Int}
theorem Rep.seal (R : Rep W F0 F M H) (h1 : M a = some (.dic (dkOpen d l m n))) (h2 : M l = some (.lst (cells.map D.int))) (hl : cells.length ≤ 63) : Rep W F0 F (updM (updM M l (.part a)) a (.deck d)) H := by
  have nal : a ≠ l := fun z => by rw [z, h2] at h1; cases h1
  refine ⟨R.base, R.le, fun b mo q => ?_, R.tabs, R.nt, R.scr⟩
  by_cases hb : b = a
  · subst hb
    rw [updM_same] at q; cases q
    obtain ⟨hF, xs, q1, q2⟩ := R.mo b _ h1
    obtain ⟨_, ys, q3, q4⟩ := R.mo l _ h2
    obtain ⟨x1, xs, rfl, y1, x2, xs, rfl, y2, x3, xs, rfl, y3, q5⟩ := q2
    refine ⟨hF, l, cells, m, n, xs, by rw [updM_ne (Ne.symm nal), updM_same], by rw [q3, rds_ints q4], hl, ?_, q5⟩
    rw [q1, show x1 = V.ref l from y1, show x2 = V.int m from y2, show x3 = V.int n from y3]
    rfl
  · rw [updM_ne hb] at q
    by_cases hl : b = l
    · subst hl
      rw [updM_same] at q; cases q
      obtain ⟨hF, ys, q3, q4⟩ := R.mo b _ h2
      exact ⟨hF, ys, q3⟩
    · rw [updM_ne hl] at q
      obtain ⟨hF, q1⟩ := R.mo b mo q
      refine ⟨hF, ?_⟩
      cases mo with
      | lst ds => exact q1
      | dic kvs => exact q1
      | deck d' =>
        obtain ⟨l', cells', m', n', xs, e1, e2⟩ := q1
        have n1 : l' ≠ a := fun z => by rw [z, h1] at e1; cases e1
        have n2 : l' ≠ l := fun z => by rw [z, h2] at e1; cases e1
        exact ⟨l', cells', m', n', xs, by rw [updM_ne n1, updM_ne n2]; exact e1, e2⟩
      | part o => exact q1
theorem Rep.open (R : Rep W F0 F M H) (h : M a = some (.deck d)) : ∃ l cells m n, M l = some (.part a) ∧ cells.length ≤ 63 ∧ Rep W F0 F (opened M a l d cells m n) H := by
  obtain ⟨hF, l, cells, m, n, xs, e1, e2, e3, e4, e5⟩ := R.mo a _ h
  have nal : a ≠ l := fun z => by rw [z, e1] at h; cases h
  refine ⟨l, cells, m, n, e1, e3, R.base, R.le, fun b mo q => ?_, R.tabs, R.nt, R.scr⟩
  unfold opened at q ⊢
  by_cases hb : b = a
  · subst hb
    rw [updM_same] at q; cases q
    refine ⟨hF, V.ref l :: V.int m :: V.int n :: xs, by rw [e4]; rfl, ?_⟩
    exact .cons rfl (.cons rfl (.cons rfl e5))
  · rw [updM_ne hb] at q
    by_cases hl : b = l
    · subst hl
      rw [updM_same] at q; cases q
      exact ⟨(R.mo b _ e1).1, _, e2, Rds.ints cells⟩
    · rw [updM_ne hl] at q
      obtain ⟨hF', q1⟩ := R.mo b mo q
      refine ⟨hF', ?_⟩
      cases mo with
      | lst ds => exact q1
      | dic kvs => exact q1
      | deck d' =>
        obtain ⟨l', cells', m', n', xs', f1, f2⟩ := q1
        have n1 : l' ≠ a := fun z => by rw [z, h] at f1; cases f1
        have n2 : l' ≠ l := fun z => by rw [z, e1] at f1; injection f1 with f1; injection f1 with f1; exact hb f1.symm
        exact ⟨l', cells', m', n', xs', by rw [updM_ne n1, updM_ne n2]; exact f1, f2⟩
      | part o => exact q1
theorem sealed_back (h1 : M a = some (.deck d)) (h2 : M l = some (.part a)) {x y : MO} : updM (updM (updM (updM M l x) a y) l (.part a)) a (.deck d) = M := by
  funext b
  unfold updM
  by_cases hb : b = a
  · subst hb; rw [if_pos rfl]; exact h1.symm
  · rw [if_neg hb]
    by_cases hl : b = l
    · subst hl; rw [if_pos rfl]; exact h2.symm
    · rw [if_neg hl, if_neg hb, if_neg hl]
end
/-- a draw: any number below n -/
def spDraw (d : Dk) : SpD := fun ds M k _ => ∃ (a : Addr) (n : Int), ds = [.ref a, .int n] ∧ M a = some (.deck d) ∧ 1 ≤ n ∧ n < 2 ^ 64 ∧ ∀ j : Int, 0 ≤ j → j < n → k (.int j) M
/-- .. told of the open deck -/
def spDrawO (d : Dk) : SpD := fun ds M k _ => ∃ (a l : Addr) (cells : List Int) (m n b : Int) (M0 : Sto), ds = [.ref a, .int b] ∧ a ≠ l ∧ M = opened M0 a l d cells m n ∧ cells.length ≤ 63 ∧ 1 ≤ b ∧ b < 2 ^ 64 ∧
  ∀ (j : Int) (cells' : List Int) (n' : Int), 0 ≤ j → j < b → cells'.length ≤ 63 → k (.int j) (opened M0 a l d cells' m n')
theorem draw_close {P : Program} {w : World} {K : PySem.W.Frag} {mg : Str → Option Value} {base : Heap} {W : Wd} {k : Nat} {f : Addr} {fd : FuncData} {ps : List Str} {d : Dk} (h : FnD P w K mg base W k f fd ps (spDrawO d)) : FnD P w K mg base W k f fd ps (spDraw d) :=
  h.imp fun vs H Q E ⟨ds, F, M, kk, e, rs, R, ⟨a, b, ed, em, h1, h2, hk⟩, g, gx⟩ => by
    obtain ⟨l, cells, m, n, e1, e3, R2⟩ := R.open em
    have nal : a ≠ l := fun z => by rw [z, e1] at em; cases em
    refine ⟨ds, F, _, fun x M' => ∃ (j : Int) (cells' : List Int) (n' : Int), 0 ≤ j ∧ j < b ∧ cells'.length ≤ 63 ∧ x = .int j ∧ M' = opened M a l d cells' m n', e, rs, R2, ⟨a, l, cells, m, n, b, M, ed, nal, rfl, e3, h1, h2, fun j cells' n' q1 q2 q3 => ⟨j, cells', n', q1, q2, q3, rfl, rfl⟩⟩, ?_, gx⟩
    rintro x M' ⟨j, cells', n', q1, q2, q3, rfl, rfl⟩ v F' H' R3 rv
    have R4 := R3.seal (a := a) (l := l) (d := d) (cells := cells') (m := m) (n := n') (by unfold opened; rw [updM_same]) (by unfold opened; rw [updM_ne (Ne.symm nal), updM_same]) q3
    unfold opened at R4
    rw [sealed_back em e1] at R4
    exact g _ _ (hk j q1 q2) _ _ _ R4 rv
end DL
set_option maxHeartbeats 2000000
namespace DL
open PySem PySem.Spec L2 LamX
open PyProof.Rows (IntsAre AllBare)

/-! ### the end of a row whose defs ask for no guards -/
section
variable {P : Program} {w : World} {K : PySem.W.Frag} {mg mb : Str → Option Value} {s1 : Shared} {H : Hp} {cs : List (Addr × Addr)} {a : Addr} {vs : List Value}
/-- the objects that may be tracked at the entry: lists, empty tables -/
def Few (s1 : Shared) (H : Hp) : Prop := ∀ b, H b ≠ none → (∃ o xs n, s1.heap.get? b = some o ∧ o.data = .seq xs n) ∨ ∃ o, s1.heap.get? b = some o ∧ o.data = .fields #[]
theorem Few.seen (h : Few s1 H) {b : Addr} {o : Obj} (e : s1.heap.get? b = some o) (h1 : ∀ xs n, o.data ≠ .seq xs n) (h2 : o.data ≠ .fields #[]) : H b = none := Classical.byContradiction fun z => by
  rcases h b z with ⟨o', xs, n, e', d⟩ | ⟨o', e', d⟩
  · rw [e] at e'; cases e'; exact h1 _ _ d
  · rw [e] at e'; cases e'; exact h2 d
theorem Few.dict (h : Few s1 H) {b : Addr} {o : Obj} {es : Array DictEntry} {ep : Nat} (e : s1.heap.get? b = some o) (d : o.data = .dict es ep) : (hidT s1.heap H).get? b = some o :=
  hidT_get e (h.seen e (fun xs n z => by rw [d] at z; cases z) fun z => by rw [d] at z; cases z)
theorem Few.ns (h : Few s1 H) {b : Addr} {m : Str → Option Value} : s1.heap.Ns b m → (hidT s1.heap H).Ns b m := fun ⟨o, es, ep, e, d, r⟩ => ⟨o, es, ep, h.dict e d, d, r⟩
theorem Few.table (h : Few s1 H) (hns : s1.heap.Ns mainGlobals mg) {p : Addr × Addr} (hT : s1.heap.get? p.2 = some { cls := .none, data := .fields #[] }) (C : PySem.W.CodeHd s1.heap p.1 p.2)
    (hbm : ∃ (bm : Addr) (ob : Obj), mg "__builtins__" = some (.ref bm) ∧ bm ≠ builtinsNs ∧ s1.heap.get? bm = some ob ∧ ob.cls = .type "module" ∧ ob.dict = some builtinsNs ∧ ob.data = .plain) : TabB (hidT s1.heap H) mg p.1 p.2 := by
  obtain ⟨og, eg, epg, eg1, eg2, _⟩ := hns
  refine ⟨?_, ?_, fun z => ?_⟩
  · obtain ⟨o, us, file, tf, flags, tg, inF, text, tt, e1, r1, r2, r3, rest⟩ := C
    refine ⟨o, us, file, tf, flags, tg, inF, text, tt, hidT_get e1 (h.seen e1 (fun xs n z => ?_) fun z => ?_), r1, r2, r3, rest⟩
    · rw [r2] at z; cases z
    · rw [r2] at z
      cases z
      simp at r3
  · obtain ⟨bm, ob, b1, b2, b3, b4, b5, b6⟩ := hbm
    refine ⟨bm, ob, b1, b2, fun q => ?_, fun q => ?_, hidT_get b3 (h.seen b3 (fun xs n z => by rw [b6] at z; cases z) fun z => by rw [b6] at z; cases z), b4, b5, b6⟩
    · subst q
      rw [eg1] at b3; cases b3
      rw [eg2] at b6; cases b6
    · subst q
      rw [hT] at b3; cases b3
      cases b6
  · rw [← z, eg1] at hT
    cases hT
    cases eg2
theorem law_core {k : Nat} {fa : Addr} {fd : FuncData} {x : Str} {sp : Sp} {ns : List Int} (KX : K.In s1.heap) (hns : s1.heap.Ns mainGlobals mg) (hb : s1.heap.Ns builtinsNs mb) (hbb : ∀ x : Str, x ≠ "__name__" → mb x = bootBuiltins x) (hlim : s1.heap.NoLimit) (hg : s1.gens = #[])
    (hT : ∀ p ∈ cs, s1.heap.get? p.2 = some { cls := .none, data := .fields #[] }) (nT : ∀ p ∈ cs, K.lookup p.2 = none) (C : ∀ p ∈ cs, PySem.W.CodeHd s1.heap p.1 p.2)
    (hbm : ∃ (bm : Addr) (ob : Obj), mg "__builtins__" = some (.ref bm) ∧ bm ≠ builtinsNs ∧ s1.heap.get? bm = some ob ∧ ob.cls = .type "module" ∧ ob.dict = some builtinsNs ∧ ob.data = .plain) (hr : Room k callerA)
    (F : ∀ base : Heap, K.In base → base.Ns mainGlobals mg → (∀ p ∈ cs, TabB base mg p.1 p.2) → FnG P w K mg base CX0 k fa fd [x] sp) (hbind : ∀ (s : Shared) (u : Value), BindsTo s fd ⟨[u], []⟩ [(x, u)])
    (few : Few s1 H) (hok : HOk P w H s1.heap) (kf : ∀ b o, K.lookup b = some o → H b = none) (hsp : sp [.ref a] H (fun v _ => v = .bl true) fun _ _ _ => False) (hH : ∀ p ∈ cs, H p.2 = some (.tbl #[])) (hO : ∀ b, H b = none ∨ b ∈ cs.map (·.2) ∨ ∃ o xs, H b = some (.frz o (.lst xs))) :
    codeAny (model P w) callerA (.call (.ref fa) ⟨[.ref a], []⟩) (fun r s' => r = .ok (.ret (.bool true)) ∧ OldK s1.heap s'.heap ∧ s'.os = s1.os ∧ AllBare s'.gens) s1 := by
  have hKb : K.In (hidT s1.heap H) := fun b o e => hidT_get (KX b o e) (kf b o e)
  have hM : L2.Mod K mg (hidT s1.heap H) := ⟨hKb, few.ns hns, ⟨mb, few.ns hb, hbb⟩, let ⟨mc, h1, h2⟩ := hlim; ⟨mc, few.ns h1, h2⟩⟩
  have e0 : Env0 P w K mg (hidT s1.heap H) callerA [] s1 H := ⟨rfl, hM, fun b o e => of_hidT e, Nat.le_of_eq (hidT_size _ _), trivial, (fun b hb => absurd (show b ∈ ([] : List Addr) from hb) (by simp)), hok, .of_eq hg⟩
  refine codeAny_mono ((F _ hKb (few.ns hns) fun p hp => few.table hns (hT p hp) (C p hp) hbm).go hr rfl e0 (hbind s1 (.ref a)) (vs := [.ref a]) (us := [.ref a]) (.cons rfl .nil) hsp) fun r s' h => ?_
  rcases r with er | fl
  · exact False.elim h
  rcases fl with _ | _ | _ | u
  iterate 3 exact False.elim h
  obtain ⟨v, H', os, bare, un, hok', r', q⟩ := h
  have q' : v = .bl true := q
  subst q'
  obtain rfl : u = Value.bool true := r'
  have old : ∀ b o, b ∉ cs.map (·.2) → s1.heap.get? b = some o → s'.heap.get? b = some o := fun b o nb e => by
    rcases hO b with z | z | ⟨ob, xs, z⟩
    · exact un.keep b o e z (by intro y; exact absurd (show b ∈ ([] : List Addr) from y) (by simp)) (by simp)
    · exact absurd z nb
    · obtain ⟨e1, _⟩ := hok b _ z
      obtain ⟨e2, _⟩ := hok' b _ (un.frzs b ob _ z)
      rw [e] at e1; cases e1
      exact e2
  have tab : ∀ p ∈ cs, ∃ more : Array Value, s'.heap.get? p.2 = some { cls := .none, data := .fields more } := fun p hp => let ⟨more, z⟩ := un.tbls p.2 #[] (hH p hp); ⟨_, hok' p.2 _ z⟩
  refine ⟨rfl, ⟨fun b o e => ?_, fun b o e => ?_⟩, os, bare⟩
  all_goals by_cases hb : b ∈ cs.map (·.2)
  · obtain ⟨p, hp, ep⟩ := List.mem_map.mp hb
    obtain ⟨more, hm⟩ := tab p hp
    rw [← ep] at e ⊢
    rw [hT p hp] at e; cases e
    exact .inr (.inl ⟨((C p hp).tab (hT p hp)).isCodeTable, rfl, #[], more, rfl, by rw [Array.empty_append]; exact hm⟩)
  · exact .inl (old b o hb e)
  · obtain ⟨p, hp, ep⟩ := List.mem_map.mp hb
    rw [← ep]
    exact let ⟨more, hm⟩ := tab p hp; ⟨_, hm⟩
  · exact ⟨o, old b o hb e⟩
/-- the law is called: its promise at the script -/
theorem law_callG {k : Nat} {fa : Addr} {fd : FuncData} {x : Str} {sp : Sp} {ns : List Int} (KX : K.In s1.heap) (hns : s1.heap.Ns mainGlobals mg) (hb : s1.heap.Ns builtinsNs mb) (hbb : ∀ x : Str, x ≠ "__name__" → mb x = bootBuiltins x) (hlim : s1.heap.NoLimit) (hg : s1.gens = #[])
    (hT : ∀ p ∈ cs, s1.heap.get? p.2 = some { cls := .none, data := .fields #[] }) (nT : ∀ p ∈ cs, K.lookup p.2 = none) (C : ∀ p ∈ cs, PySem.W.CodeHd s1.heap p.1 p.2)
    (hbm : ∃ (bm : Addr) (ob : Obj), mg "__builtins__" = some (.ref bm) ∧ bm ≠ builtinsNs ∧ s1.heap.get? bm = some ob ∧ ob.cls = .type "module" ∧ ob.dict = some builtinsNs ∧ ob.data = .plain) (hr : Room k callerA)
    (ha : s1.heap.get? a = some { cls := .type "list", data := .seq vs.toArray }) (hi : IntsAre vs ns) (hl : ns.length ≤ sizeLine)
    (F : ∀ base : Heap, K.In base → base.Ns mainGlobals mg → (∀ p ∈ cs, TabB base mg p.1 p.2) → FnG P w K mg base CX0 k fa fd [x] sp) (hbind : ∀ (s : Shared) (u : Value), BindsTo s fd ⟨[u], []⟩ [(x, u)])
    (hsp : ∀ H : Hp, (∀ p ∈ cs, H p.2 = some (.tbl #[])) → ((∃ o, H a = some (.frz o (.lst (ns.map V.int)))) ∨ (∃ (o : Obj) (its : Array Value) (n : Nat), K.lookup a = some o ∧ o.cls = .type "list" ∧ o.dict = none ∧ o.data = .seq its n ∧ its.size ≤ sizeLine ∧ Vals (ns.map V.int) its.toList)) → sp [.ref a] H (fun v _ => v = .bl true) fun _ _ _ => False) :
    codeAny (model P w) callerA (.call (.ref fa) ⟨[.ref a], []⟩) (fun r s' => r = .ok (.ret (.bool true)) ∧ OldK s1.heap s'.heap ∧ s'.os = s1.os ∧ AllBare s'.gens) s1 := by
  have rv := vals_ints hi
  have isT : ∀ b, b ∈ cs.map (·.2) → s1.heap.get? b = some { cls := .none, data := .fields #[] } := fun b hb => by
    obtain ⟨p, hp, e⟩ := List.mem_map.mp hb
    rw [← e]; exact hT p hp
  have nKT : ∀ b, b ∈ cs.map (·.2) → K.lookup b = none := fun b hb => by
    obtain ⟨p, hp, e⟩ := List.mem_map.mp hb
    rw [← e]; exact nT p hp
  have aT : a ∉ cs.map (·.2) := fun z => by
    have q := isT a z
    rw [ha] at q; cases q
  have memT : ∀ p ∈ cs, p.2 ∈ cs.map (·.2) := fun p hp => List.mem_map.mpr ⟨p, hp, rfl⟩
  cases hk : K.lookup a with
  | some o =>
    have e := KX a o hk
    rw [ha] at e; cases e
    have ev : ∀ b u, (if b ∈ cs.map (·.2) then some (HO.tbl #[]) else none) = some u → b ∈ cs.map (·.2) ∧ u = .tbl #[] := fun b u z => by
      by_cases hb : b ∈ cs.map (·.2)
      · rw [if_pos hb] at z; cases z; exact ⟨hb, rfl⟩
      · rw [if_neg hb] at z; cases z
    refine law_core (H := fun b => if b ∈ cs.map (·.2) then some (.tbl #[]) else none) KX hns hb hbb hlim hg hT nT C hbm hr F hbind (ns := ns) (fun b z => ?_) (fun b u z => ?_) (fun b o z => ?_) (hsp _ (fun p hp => if_pos (memT p hp)) (.inr ⟨_, vs.toArray, _, hk, rfl, rfl, rfl, by rw [List.size_toArray, hi.length]; exact hl, by simpa using rv⟩)) (fun p hp => if_pos (memT p hp)) fun b => ?_
    · obtain ⟨u, z⟩ := Option.ne_none_iff_exists'.mp z
      exact .inr ⟨_, isT b (ev b u z).1, rfl⟩
    · obtain ⟨h1, rfl⟩ := ev b u z
      exact isT b h1
    · by_cases hb : b ∈ cs.map (·.2)
      · rw [nKT b hb] at z; cases z
      · exact if_neg hb
    · by_cases hb : b ∈ cs.map (·.2)
      · exact .inr (.inl hb)
      · exact .inl (if_neg hb)
  | none =>
    have at_ : ∀ b, b ≠ a → (if b = a then some (HO.frz { cls := .type "list", data := .seq vs.toArray } (.lst (ns.map V.int))) else if b ∈ cs.map (·.2) then some (HO.tbl #[]) else none) = if b ∈ cs.map (·.2) then some (HO.tbl #[]) else none := fun b nb => if_neg nb
    refine law_core (H := fun b => if b = a then some (.frz { cls := .type "list", data := .seq vs.toArray } (.lst (ns.map V.int))) else if b ∈ cs.map (·.2) then some (.tbl #[]) else none) KX hns hb hbb hlim hg hT nT C hbm hr F hbind (ns := ns) (fun b z => ?_) (fun b u z => ?_) (fun b o z => ?_)
      (hsp _ (fun p hp => ?_) (.inl ⟨_, if_pos rfl⟩)) (fun p hp => ?_) fun b => ?_
    · by_cases hb : b = a
      · subst hb; exact .inl ⟨_, _, _, ha, rfl⟩
      · have z := fun y => z ((at_ b hb).trans y)
        by_cases hb2 : b ∈ cs.map (·.2)
        · exact .inr ⟨_, isT b hb2, rfl⟩
        · exact absurd (if_neg hb2) z
    · by_cases hb : b = a
      · subst hb
        have z := (if_pos rfl).symm.trans z
        cases z
        exact ⟨ha, by rw [List.length_map]; exact hl, vs, _, rv, ha⟩
      · have z := (at_ b hb).symm.trans z
        by_cases hb2 : b ∈ cs.map (·.2)
        · rw [if_pos hb2] at z; cases z
          exact isT b hb2
        · rw [if_neg hb2] at z; cases z
    · have nb : b ≠ a := fun y => by rw [y, hk] at z; cases z
      refine (at_ b nb).trans (if_neg fun y => ?_)
      rw [nKT b y] at z; cases z
    · exact (at_ p.2 fun y => aT (y ▸ memT p hp)).trans (if_pos (memT p hp))
    · exact (at_ p.2 fun y => aT (y ▸ memT p hp)).trans (if_pos (memT p hp))
    · by_cases hb : b = a
      · subst hb; exact .inr (.inr ⟨_, _, if_pos rfl⟩)
      · by_cases hb2 : b ∈ cs.map (·.2)
        · exact .inr (.inl hb2)
        · exact .inl ((at_ b hb).trans (if_neg hb2))
end
/-- at the head's heap: the law's promise, the tables of the defs that make lambdas -/
def LawAtG (l : PySem.W.OpenLaw) (w : World) (K : PySem.W.Frag) (k n : Nat) (x : Str) (mg : Str → Option Value) (fa : Addr) (h : Heap) : Prop :=
  ∃ (fd : FuncData) (cs : List (Addr × Addr)) (T : List (Addr × Str)) (sp : Wd → SpD), (∀ p ∈ T, p.1 ∈ cs.map (·.2)) ∧ (∀ p ∈ cs, h.get? p.2 = some { cls := .none, data := .fields #[] }) ∧ (∀ p ∈ cs, K.lookup p.2 = none) ∧ (∀ p ∈ cs, PySem.W.CodeHd h p.1 p.2) ∧ (∀ (s : Shared) (u : Value), BindsTo s fd ⟨[u], []⟩ [(x, u)]) ∧
    (∀ (a : Addr) (ns : List Int), ns.length ≤ n → sp ⟨K, T, [(a, ns)]⟩ [.ref a] (fun _ => none) (fun d _ => d = .bl true) X0) ∧
    ∀ (W : Wd), W.K = K → W.T = T → ∀ base : Heap, K.In base → base.Ns mainGlobals mg → (∀ p ∈ cs, TabB base mg p.1 p.2) → FnDG l.prog w K mg base W k fa fd [x] (sp W)
theorem walk_ofG {l : PySem.W.OpenLaw} {n k : Nat} {q : Program} {loose : List Str} {XP : (Str → Option Value) → Heap → Prop} {YP : World → Heap → Prop} {d : DefRec} {K : Params → PySem.W.Frag} {x : Str}
    (hn : l.most = some n) (hn2 : n ≤ sizeLine) (hdf : d.params.defaults = []) (hr : Room k callerA) (hY : ∀ (w : World) (h : Heap), YP w h → (K w.params).In h)
    (F : ∀ (w : World) (mg : Str → Option Value) (fa : Addr) (h : Heap), YP w h → (K w.params).In h → h.Ns mainGlobals mg → mg d.name = some (.ref fa) → LawAtG l w (K w.params) k n x mg fa h) :
    PySem.W.WalkO q loose XP YP l.row.toRowW d [] (fun f vs => PySem.call f vs) := by
  refine Att.attach_callB hn hdf fun w s0 s1 mg mb fa o pm cd doc a vs ns G Y ho hd hcd hmg hobj hints hlen hbits hg => ?_
  have KX := hY w _ Y
  obtain ⟨fd, cs, T, sp, hTT, hT, nT, C, hb, hsp, hF⟩ := F w mg fa _ Y KX G.T.g hmg
  refine law_callG KX G.T.g G.T.b G.T.builtins G.T.nolimit hg hT nT C G.T.bmain hr hobj hints (Nat.le_trans hlen hn2) (hF ⟨K w.params, T, [(a, ns)]⟩ rfl rfl) hb fun H hH hS => ?_
  refine ⟨[.ref a], fun _ => none, fun _ => none, _, _, ⟨_, _, rfl, rfl, rfl⟩, ⟨fun _ _ z => z, (fun _ _ z => by cases z), (fun _ _ z => by cases z), fun p hp => ?_, (fun _ _ z => by cases z), fun p hp => ?_⟩, hsp a ns hlen, fun dd M' z v F' H' R r => ?_, goX0⟩
  · obtain ⟨p', hp', e⟩ := List.mem_map.mp (hTT p hp)
    exact TabS.nil (by rw [← e]; exact hH p' hp')
  · have e : p = (a, ns) := List.mem_singleton.mp hp
    subst e
    exact hS
  · have z : dd = .bl true := z
    subst z
    exact r
end DL
set_option maxHeartbeats 2000000
namespace DL
open PySem PySem.Spec L2
open PyProof.Rows (envOfC)

/-! ### defs by their names -/
def CalD (P : Program) (w : World) (K : PySem.W.Frag) (mg : Str → Option Value) (base : Heap) (W : Wd) (k : Nat) (x : Str) (ps : List Str) (sp : SpD) : Prop := ∃ (f : Addr) (fd : FuncData), mg x = some (.ref f) ∧ PySem.W.keepIn K (.ref f) = true ∧ Binds K fd ps [] ∧ FnD P w K mg base W k f fd ps sp
def CalDX (P : Program) (w : World) (K : PySem.W.Frag) (mg : Str → Option Value) (base : Heap) (W : Wd) (k : Nat) (x : Str) (ps : List Str) (sp : SpD) : Prop := ∃ (f : Addr) (fd : FuncData), mg x = some (.ref f) ∧ PySem.W.keepIn K (.ref f) = true ∧ Binds K fd ps [] ∧ FnDX P w K mg base W k f fd ps sp
def CalDG (P : Program) (w : World) (K : PySem.W.Frag) (mg : Str → Option Value) (base : Heap) (W : Wd) (k : Nat) (x : Str) (ps : List Str) (sp : SpD) : Prop := ∃ (f : Addr) (fd : FuncData), mg x = some (.ref f) ∧ PySem.W.keepIn K (.ref f) = true ∧ Binds K fd ps [] ∧ FnDG P w K mg base W k f fd ps sp
/-- called with all parameters by name: ks in the call's order, pm puts them in the def's -/
def KwD (P : Program) (w : World) (K : PySem.W.Frag) (mg : Str → Option Value) (base : Heap) (W : Wd) (k : Nat) (x : Str) (ps ks : List Str) (pmD : List D → List D) (sp : SpD) : Prop := ∃ (f : Addr) (fd : FuncData) (pm : List Value → List Value) (pmV : List V → List V), mg x = some (.ref f) ∧ PySem.W.keepIn K (.ref f) = true ∧ KwAll fd ps ks pm pmV pmD ∧ FnD P w K mg base W k f fd ps sp
def KwDX (P : Program) (w : World) (K : PySem.W.Frag) (mg : Str → Option Value) (base : Heap) (W : Wd) (k : Nat) (x : Str) (ps ks : List Str) (pmD : List D → List D) (sp : SpD) : Prop := ∃ (f : Addr) (fd : FuncData) (pm : List Value → List Value) (pmV : List V → List V), mg x = some (.ref f) ∧ PySem.W.keepIn K (.ref f) = true ∧ KwAll fd ps ks pm pmV pmD ∧ FnDX P w K mg base W k f fd ps sp
/-- a def of the top -/
def DefAt (K : PySem.W.Frag) (mg : Str → Option Value) (x : Str) (st : Stmt) (ps : List Str) : Prop := ∃ (f : Addr) (fd : FuncData), mg x = some (.ref f) ∧ L2.Fun K x x st f fd ∧ Binds K fd ps []
section
variable {W : Wd} {F0 : Hp} {X : Cx} {p pos : Pos} {a b c e i o : Expr} {es : List Expr} {ta te td ty : TED} {t : TAD} {x : Str} {ps ks : List Str} {k : Nat} {sp : SpD} {kws : List Keyword} {pmD : List D → List D}
theorem pd_cal (C : CalD X.prog X.w X.K X.mg X.base W k x ps sp) (hr : Room k X.A)
    (ha : PAD W F0 X (e :: es) t) (hg : Gl X x := by rfl) (hdb : (x == ("__debug__" : Str)) = false := by decide) (he : starEach (e :: es) X.env = (false, eval e X.env) :: starEach es X.env := by rfl) (hpl : (backTo pos (starEach es X.env)).any (·.1) = false := by rfl) :
    PED W F0 X (.Call (.Name x p) (e :: es) [] pos) (dCall sp X0 t) := let ⟨_, _, hm, hk, hb, G⟩ := C; pd_call G hr hm hk hb ha hg hdb he hpl
theorem pd_calN (C : CalDX X.prog X.w X.K X.mg X.base W k x ps sp) (hr : Room k X.A)
    (ha : PAD W F0 X (e :: es) t) (hg : Gl X x := by rfl) (hdb : (x == ("__debug__" : Str)) = false := by decide) (he : starEach (e :: es) X.env = (false, eval e X.env) :: starEach es X.env := by rfl) (hpl : (backTo pos (starEach es X.env)).any (·.1) = false := by rfl) :
    PED W F0 X (.Call (.Name x p) (e :: es) [] pos) (dCall sp X0 t) := let ⟨_, _, hm, hk, hb, G⟩ := C; pd_callN G hr hm hk hb ha hg hdb he hpl
theorem pd_calX {eS : Sl → XKD} (hR : RzD W F0 X eS) (C : CalDX X.prog X.w X.K X.mg X.base W k x ps sp) (hr : Room k X.A)
    (ha : PAD W F0 X (e :: es) t) (hg : Gl X x := by rfl) (hdb : (x == ("__debug__" : Str)) = false := by decide) (he : starEach (e :: es) X.env = (false, eval e X.env) :: starEach es X.env := by rfl) (hpl : (backTo pos (starEach es X.env)).any (·.1) = false := by rfl) :
    PED W F0 X (.Call (.Name x p) (e :: es) [] pos) (dCallS sp eS t) := let ⟨_, _, hm, hk, hb, G⟩ := C; pd_callX hR G hr hm hk hb ha hg hdb he hpl
theorem pd_calG (C : CalDG X.prog X.w X.K X.mg X.base W k x ps sp) (hr : Room k X.A) (hgu : X.A.guards = some [])
    (ha : PAD W F0 X (e :: es) t) (hg : Gl X x := by rfl) (hdb : (x == ("__debug__" : Str)) = false := by decide) (he : starEach (e :: es) X.env = (false, eval e X.env) :: starEach es X.env := by rfl) (hpl : (backTo pos (starEach es X.env)).any (·.1) = false := by rfl) :
    PED W F0 X (.Call (.Name x p) (e :: es) [] pos) (dCall sp X0 t) := let ⟨_, _, hm, hk, hb, G⟩ := C; pd_callG G hr hgu hm hk hb ha hg hdb he hpl
theorem pd_calK (C : KwD X.prog X.w X.K X.mg X.base W k x ps ks pmD sp) (hr : Room k X.A)
    (ha : PKD W F0 X kws t) (hg : Gl X x := by rfl) (hall : (backToKw pos (keywordEach kws X.env)).all (·.1.isSome) = true := by rfl) (hks : (backToKw pos (keywordEach kws X.env)).filterMap (·.1) = ks := by rfl)
    (hpl : ((backTo pos (starEach [] X.env)).any (·.1) || (backToKw pos (keywordEach kws X.env)).any (·.1.isNone)) = false := by rfl) (hdb : (x == ("__debug__" : Str)) = false := by decide) :
    PED W F0 X (.Call (.Name x p) [] kws pos) (dCallKS sp pmD (fun _ => X0) t) := let ⟨_, _, _, _, hm, hk, hb, G⟩ := C; pd_callK_ (fun _ => E0) (fun _ => X0) G (fun _ _ _ _ _ => goX0) (fun σ pins H s e s' I c => pass0 pins σ H s e s' I c) hr hb hm hk ha hg hall hks hpl hdb
theorem pd_calKN (C : KwDX X.prog X.w X.K X.mg X.base W k x ps ks pmD sp) (hr : Room k X.A)
    (ha : PKD W F0 X kws t) (hg : Gl X x := by rfl) (hall : (backToKw pos (keywordEach kws X.env)).all (·.1.isSome) = true := by rfl) (hks : (backToKw pos (keywordEach kws X.env)).filterMap (·.1) = ks := by rfl)
    (hpl : ((backTo pos (starEach [] X.env)).any (·.1) || (backToKw pos (keywordEach kws X.env)).any (·.1.isNone)) = false := by rfl) (hdb : (x == ("__debug__" : Str)) = false := by decide) :
    PED W F0 X (.Call (.Name x p) [] kws pos) (dCallKS sp pmD (fun _ => X0) t) := let ⟨_, _, _, _, hm, hk, hb, G⟩ := C; pd_callK_ (fun _ => E0) (fun _ => X0) G (fun _ _ _ _ _ => goX0) (fun σ pins H s e s' I c => passN pins σ H s e s' I c) hr hb hm hk ha hg hall hks hpl hdb
theorem pd_calKX {eS : Sl → XKD} (hR : RzD W F0 X eS) (C : KwDX X.prog X.w X.K X.mg X.base W k x ps ks pmD sp) (hr : Room k X.A)
    (ha : PKD W F0 X kws t) (hg : Gl X x := by rfl) (hall : (backToKw pos (keywordEach kws X.env)).all (·.1.isSome) = true := by rfl) (hks : (backToKw pos (keywordEach kws X.env)).filterMap (·.1) = ks := by rfl)
    (hpl : ((backTo pos (starEach [] X.env)).any (·.1) || (backToKw pos (keywordEach kws X.env)).any (·.1.isNone)) = false := by rfl) (hdb : (x == ("__debug__" : Str)) = false := by decide) :
    PED W F0 X (.Call (.Name x p) [] kws pos) (dCallKS sp pmD eS t) := let ⟨_, _, _, _, hm, hk, hb, G⟩ := C; pd_callKX hR G hr hb hm hk ha hg hall hks hpl hdb
end
section
variable {P : Program} {w : World} {K : PySem.W.Frag} {mg : Str → Option Value} {base : Heap} {x : Str} {st : Stmt} {N ps ks : List Str} {k : Nat} {W : Wd} {sp : SpD} {pmD : List D → List D}
theorem okC (Df : DefAt K mg x st ps) (S : FnScope N ps (defScope st)) (len : ∀ ds M k e, sp ds M k e → ds.length = ps.length)
    (hbody : ∀ (f : Addr) (cdv : Value) (A : Around) (outer : List Env) (s : Shared) (H : Hp) (E : XK) (F0 : Hp) (ds : List D) (M : Sto) (kk : DKt) (e : XKD), Room k (A.deeper (envOfC x (defScope st) s.heap.objs.size f cdv)) → sp ds M kk e →
      ∃ t : TSD, PSsD W F0 (cxOf CX0 P w K mg base N x (defScope st) f cdv A outer s H E).nox (defBody st) t ∧ t { nx := fun _ M' => kk .non M', rt := kk } (startD N ds) M) : CalD P w K mg base W (k + 1) x ps sp :=
  let ⟨f, fd, hm, F, b⟩ := Df; ⟨f, fd, hm, F.kp, b, okD F S len (hbody f)⟩
theorem okA (S : FnScope N ps (defScope st)) (len : ∀ ds M k e, sp ds M k e → ds.length = ps.length)
    (hbody : ∀ (f : Addr) (cdv : Value) (A : Around) (outer : List Env) (s : Shared) (H : Hp) (E : XK) (F0 : Hp) (ds : List D) (M : Sto) (kk : DKt) (e : XKD), Room k (A.deeper (envOfC x (defScope st) s.heap.objs.size f cdv)) → sp ds M kk e →
      ∃ t : TSD, PSsD W F0 (cxOf CX0 P w K mg base N x (defScope st) f cdv A outer s H E).nox (defBody st) t ∧ t { nx := fun _ M' => kk .non M', rt := kk } (startD N ds) M) (f : Addr) (fd : FuncData) (hm : mg x = some (.ref f)) (F : L2.Fun K x x st f fd) : FnD P w K mg base W (k + 1) f fd ps sp := okD F S len (hbody f)
theorem okAX (S : FnScope N ps (defScope st)) (len : ∀ ds M k e, sp ds M k e → ds.length = ps.length)
    (hbody : ∀ (f : Addr) (cdv : Value) (A : Around) (outer : List Env) (s : Shared) (H : Hp) (E : XK) (F0 : Hp) (ds : List D) (M : Sto) (kk : DKt) (e : XKD), Room k (A.deeper (envOfC x (defScope st) s.heap.objs.size f cdv)) → RzD W F0 (cxOf (L2N.CX P w) P w K mg base N x (defScope st) f cdv A outer s H E) (fun _ => e) → sp ds M kk e →
      ∃ t : TSD, PSsD W F0 (cxOf (L2N.CX P w) P w K mg base N x (defScope st) f cdv A outer s H E) (defBody st) t ∧ t { nx := fun _ M' => kk .non M', rt := kk } (startD N ds) M) (f : Addr) (fd : FuncData) (hm : mg x = some (.ref f)) (F : L2.Fun K x x st f fd) : FnDX P w K mg base W (k + 1) f fd ps sp := okDX F S len (hbody f)
theorem okCX (Df : DefAt K mg x st ps) (S : FnScope N ps (defScope st)) (len : ∀ ds M k e, sp ds M k e → ds.length = ps.length)
    (hbody : ∀ (f : Addr) (cdv : Value) (A : Around) (outer : List Env) (s : Shared) (H : Hp) (E : XK) (F0 : Hp) (ds : List D) (M : Sto) (kk : DKt) (e : XKD), Room k (A.deeper (envOfC x (defScope st) s.heap.objs.size f cdv)) → RzD W F0 (cxOf (L2N.CX P w) P w K mg base N x (defScope st) f cdv A outer s H E) (fun _ => e) → sp ds M kk e →
      ∃ t : TSD, PSsD W F0 (cxOf (L2N.CX P w) P w K mg base N x (defScope st) f cdv A outer s H E) (defBody st) t ∧ t { nx := fun _ M' => kk .non M', rt := kk } (startD N ds) M) : CalDX P w K mg base W (k + 1) x ps sp :=
  let ⟨f, fd, hm, F, b⟩ := Df; ⟨f, fd, hm, F.kp, b, okDX F S len (hbody f)⟩
theorem okCG (Df : DefAt K mg x st ps) (S : FnScope N ps (defScope st)) (len : ∀ ds M k e, sp ds M k e → ds.length = ps.length)
    (hbody : ∀ (f : Addr) (cdv : Value) (A : Around) (outer : List Env) (s : Shared) (H : Hp) (E : XK) (F0 : Hp) (ds : List D) (M : Sto) (kk : DKt) (e : XKD), Room k (A.deeper (envOfC x (defScope st) s.heap.objs.size f cdv)) → A.guards = some [] → sp ds M kk e →
      ∃ t : TSD, PSsD W F0 (cxOf CX0 P w K mg base N x (defScope st) f cdv A outer s H E).nox (defBody st) t ∧ t { nx := fun _ M' => kk .non M', rt := kk } (startD N ds) M) : CalDG P w K mg base W (k + 1) x ps sp :=
  let ⟨f, fd, hm, F, b⟩ := Df; ⟨f, fd, hm, F.kp, b, okDG F S len (hbody f)⟩
theorem CalD.mono {j : Nat} (C : CalD P w K mg base W j x ps sp) (h : j ≤ k) : CalD P w K mg base W k x ps sp := let ⟨f, fd, a, b, c, d⟩ := C; ⟨f, fd, a, b, c, FnOk.mono d h⟩
theorem CalDX.mono {j : Nat} (C : CalDX P w K mg base W j x ps sp) (h : j ≤ k) : CalDX P w K mg base W k x ps sp := let ⟨f, fd, a, b, c, d⟩ := C; ⟨f, fd, a, b, c, FnOk.mono d h⟩
/-- what is shown of any such def's object -/
def FnAll (P : Program) (w : World) (K : PySem.W.Frag) (mg : Str → Option Value) (base : Heap) (W : Wd) (k : Nat) (x : Str) (st : Stmt) (ps : List Str) (sp : SpD) : Prop := ∀ (f : Addr) (fd : FuncData), mg x = some (.ref f) → L2.Fun K x x st f fd → FnD P w K mg base W k f fd ps sp
def FnAllX (P : Program) (w : World) (K : PySem.W.Frag) (mg : Str → Option Value) (base : Heap) (W : Wd) (k : Nat) (x : Str) (st : Stmt) (ps : List Str) (sp : SpD) : Prop := ∀ (f : Addr) (fd : FuncData), mg x = some (.ref f) → L2.Fun K x x st f fd → FnDX P w K mg base W k f fd ps sp
theorem FnAll.cal (h : FnAll P w K mg base W k x st ps sp) (Df : DefAt K mg x st ps) : CalD P w K mg base W k x ps sp := let ⟨f, fd, hm, F, b⟩ := Df; ⟨f, fd, hm, F.kp, b, h f fd hm F⟩
theorem FnAllX.cal (h : FnAllX P w K mg base W k x st ps sp) (Df : DefAt K mg x st ps) : CalDX P w K mg base W k x ps sp := let ⟨f, fd, hm, F, b⟩ := Df; ⟨f, fd, hm, F.kp, b, h f fd hm F⟩
structure KwOf (x : Str) (st : Stmt) (ps ks : List Str) (pm : List Value → List Value) (pmV : List V → List V) (pmD : List D → List D) : Prop where
  to : ∀ (kV doc pmo : Value) (an : Option Addr) (cdv ct : Value) (ws : List Value), ws.length = ks.length → bindArgs (PySem.W.fnOf x x (defArgs st) (defBody st) (defScope st) .none kV doc pmo an cdv ct) ⟨[], ks.zip ws⟩ = pure (ps.zip (pm ws))
  rel : ∀ {zs : List V} {ws : List Value}, Vals zs ws → Vals (pmV zs) (pm ws)
  rd : ∀ {F : Hp} {ds : List D} {zs : List V}, Rds F ds zs → Rds F (pmD ds) (pmV zs)
  len : ∀ zs : List V, (pmV zs).length = ps.length → zs.length = ks.length
variable {pm : List Value → List Value} {pmV : List V → List V}
theorem FnAll.kw (h : FnAll P w K mg base W k x st ps sp) (Df : DefAt K mg x st ps) (q : KwOf x st ps ks pm pmV pmD) : KwD P w K mg base W k x ps ks pmD sp := by
  obtain ⟨f, fd, hm, F, b⟩ := Df
  have G := h f fd hm F
  obtain ⟨oc, od, kV, doc, pmo, an, cdv, ct, osl, rfl, lk, hcd⟩ := id F.ex
  exact ⟨f, _, pm, pmV, hm, F.kp, ⟨fun s ws hl => .of_eq (q.to _ _ _ _ _ _ ws hl), q.rel, q.rd, q.len⟩, G⟩
theorem FnAllX.kw (h : FnAllX P w K mg base W k x st ps sp) (Df : DefAt K mg x st ps) (q : KwOf x st ps ks pm pmV pmD) : KwDX P w K mg base W k x ps ks pmD sp := by
  obtain ⟨f, fd, hm, F, b⟩ := Df
  have G := h f fd hm F
  obtain ⟨oc, od, kV, doc, pmo, an, cdv, ct, osl, rfl, lk, hcd⟩ := id F.ex
  exact ⟨f, _, pm, pmV, hm, F.kp, ⟨fun s ws hl => .of_eq (q.to _ _ _ _ _ _ ws hl), q.rel, q.rd, q.len⟩, G⟩
/-- one parameter -/
def pm1 {α : Type} : List α → List α := id
/-- two parameters, in the other order -/
def pm21 {α : Type} : List α → List α
  | [a, b] => [b, a]
  | _ => []
theorem kw1 {x y : Str} {st : Stmt} (h : ∀ (kV doc pmo : Value) (an : Option Addr) (cdv ct : Value) (v : Value), bindArgs (PySem.W.fnOf x x (defArgs st) (defBody st) (defScope st) .none kV doc pmo an cdv ct) ⟨[], [(y, v)]⟩ = pure [(y, v)]) : KwOf x st [y] [y] pm1 pm1 pm1 :=
  ⟨fun _ _ _ _ _ _ ws hl => by obtain ⟨v, rfl⟩ := List.length_eq_one_iff.mp hl; exact h .., fun r => r, fun r => r, fun zs h => h⟩
theorem kw21 {x y z : Str} {st : Stmt} (h : ∀ (kV doc pmo : Value) (an : Option Addr) (cdv ct : Value) (u v : Value), bindArgs (PySem.W.fnOf x x (defArgs st) (defBody st) (defScope st) .none kV doc pmo an cdv ct) ⟨[], [(y, u), (z, v)]⟩ = pure [(z, v), (y, u)]) : KwOf x st [z, y] [y, z] pm21 pm21 pm21 := by
  refine ⟨fun _ _ _ _ _ _ ws hl => ?_, fun {zs ws} r => ?_, fun {F ds zs} r => ?_, fun zs h => ?_⟩
  · match ws, hl with
    | [u, v], _ => exact h ..
  · cases r with
    | nil => exact .nil
    | cons r1 t1 => cases t1 with
      | nil => exact .nil
      | cons r2 t2 => cases t2 with
        | nil => exact .cons r2 (.cons r1 .nil)
        | cons _ _ => exact .nil
  · match ds, r with
    | [], r => cases r; rfl
    | [d], ⟨x, _, e, q, rfl⟩ => subst e; rfl
    | [d1, d2], ⟨x, _, e, q, x2, _, e2, q2, rfl⟩ => subst e2; subst e; exact ⟨x2, _, rfl, q2, x, _, rfl, q, rfl⟩
    | d1 :: d2 :: d3 :: ds, ⟨x, _, e, q, x2, _, e2, q2, x3, _, e3, q3, t⟩ => subst e3; subst e2; subst e; rfl
  · match zs, h with
    | [a, b], _ => rfl
    | [], h => cases h
    | [_], h => cases h
    | _ :: _ :: _ :: _, h => cases h
end
section
variable {W : Wd} {F0 : Hp} {X : Cx} {pos : Pos} {a b c e i o : Expr} {ta tb te td ty : TED} {tl th : TOD}
/-! ### the script: a locked list of ints -/
def dSlS (te : TED) (tl th : TOD) (S : List (Addr × List Int)) : TED := fun δ M k => te δ M fun x M1 => tl δ M1 fun lo M2 => th δ M2 fun hi M3 => match x with
  | .ref a => ∃ ns, (a, ns) ∈ S ∧ k (.lst (cutD (ns.map D.int) lo hi)) M3
  | _ => False
theorem pd_slS {lo hi : Option Expr} {p2 : Pos} (hW : X.K = W.K) (he : PED W F0 X e te) (hl : POD W F0 X lo tl) (hu : POD W F0 X hi th) : PED W F0 X (.Subscript e (.Slice lo hi none p2) pos) (dSlS te tl th W.S) :=
  PE.wk (pe_slice (SlR.or sl_tupA sl_list) he hl hu) fun σ H Q ⟨δ, F, M, k, hs, R, h, g⟩ => ⟨δ, F, M, _, hs, R, h, fun x M1 h1 v F1 H1 R1 r1 =>
    ⟨δ, F1, M1, _, hs.le R1.base, R1.rebase R.base, h1, fun lo M2 h2 F2 H2 R2 => ⟨δ, F2, M2, _, hs.le (R1.base.trans R2.base), R2.rebase (R.base.trans R1.base), h2, fun hi M3 h3 F3 H3 R3 => by
      have R3' := R3.rebase (R1.base.trans R2.base)
      cases x with
      | ref a =>
        obtain ⟨ns, hm, hk⟩ := h3
        obtain rfl : v = .ref a := r1
        refine .inr ⟨a, _, rfl, hW ▸ R3.scr.sq hm, fun p np => g _ _ hk _ _ _ (R3'.newF np) ⟨p, _, rfl, upd_same, ?_⟩⟩
        exact (cut_rds lo hi (Rds.ints ns)).le (Le.new (R3'.fresh np).2)
      | _ => exact h3.elim⟩⟩⟩
/-! ### deck[word] of a closed deck -/
def dDkGet (td : TED) (kk : Key) : TED := fun δ M k => td δ M fun x M1 => match x with
  | .ref a => (match M1 a with | some (.deck d) => kk ≠ .inr d.k1 ∧ kk ≠ .inr d.k2 ∧ kk ≠ .inr d.k3 ∧ (match lookD d.ex kk with | some v => k v M1 | none => False) | _ => False)
  | _ => False
theorem pd_dkget {j : Nat} {y : Str} {p2 : Pos} (hu : X.A.units + 1 < cLine) (ho : PED W F0 X o td) (hs : NoSl (.Constant (.str y) j p2) := by intro _ _; rfl) : PED W F0 X (.Subscript o (.Constant (.str y) j p2) pos) (dDkGet td (.inr y)) :=
  PE.wk (pe_dget hu ho pe_str hs) fun σ H Q ⟨δ, F, M, k, hs, R, h, g⟩ => ⟨δ, F, M, _, hs, R, h, fun x M1 h1 v F1 H1 R1 r1 => by
    cases x with
    | ref a =>
      have h1 : (match M1 a with | some (.deck d) => (.inr y : Key) ≠ .inr d.k1 ∧ (.inr y : Key) ≠ .inr d.k2 ∧ (.inr y : Key) ≠ .inr d.k3 ∧ (match lookD d.ex (.inr y) with | some v => k v M1 | none => False) | _ => False) := h1
      split at h1
      · rename_i d em
        obtain ⟨n1, n2, n3, h1⟩ := h1
        split at h1
        · rename_i w ew
          obtain rfl : v = .ref a := r1
          obtain ⟨hF, l, cells, m, n, xs, e1, e2, e3, e4, e5⟩ := R1.mo a _ em
          have z := zip_look (k := .inr y) e5
          rw [ew] at z
          obtain ⟨u, eu, ru⟩ := z
          have ev : valV ([((.inr d.k1 : Key), V.ref l), (.inr d.k2, V.int m), (.inr d.k3, V.int n)] ++ zipV d.ex xs) (.inr y) = some u := by
            rw [List.cons_append, List.cons_append, List.cons_append, List.nil_append, valV_neg (Ne.symm n1), valV_neg (Ne.symm n2), valV_neg (Ne.symm n3)]
            exact eu
          exact ⟨a, u, rfl, .inl ⟨_, .inr y, .inl e4, rfl, ev.symm⟩, g _ _ h1 _ _ _ R1 ru⟩
        · exact h1.elim
      · exact h1.elim
    | _ => exact h1.elim⟩
end
end DL
set_option maxHeartbeats 2000000
namespace DL
open PySem PySem.Spec L2
open PyProof.Rows (IsTup)
/-! ### t[::-1] of a tuple -/
section
variable {prog : Program} {w : World} {A : Around} {E : Value → Shared → Prop} {s : Shared}
theorem rev_pick (xs : Array Value) : ((List.range xs.size).filterMap fun (m : Nat) => xs[(((xs.size : Int) - 1) + (m : Int) * (-1)).toNat]?).toArray = xs.toList.reverse.toArray := by
  congr 1
  have e : ∀ l : List Nat, (∀ m ∈ l, m < xs.size) → l.filterMap (fun (m : Nat) => xs[(((xs.size : Int) - 1) + (m : Int) * (-1)).toNat]?) = l.map fun m => xs.toList.reverse[m]?.getD .none := by
    intro l
    induction l with
    | nil => intro _; rfl
    | cons m l ih =>
      intro h
      have lt : m < xs.size := h m List.mem_cons_self
      have ei : (((xs.size : Int) - 1) + (m : Int) * (-1)).toNat = xs.size - 1 - m := by omega
      have lt2 : xs.size - 1 - m < xs.size := by omega
      have e2 : xs.toList.reverse[m]? = some xs[xs.size - 1 - m] := by
        rw [List.getElem?_reverse (by simpa using lt)]
        simp [lt2]
      rw [List.filterMap_cons, ei, Array.getElem?_eq_getElem lt2, List.map_cons, e2, ih fun x hx => h x (List.mem_cons_of_mem _ hx)]
      rfl
  rw [e _ fun m hm => List.mem_range.mp hm]
  apply List.ext_getElem
  · simp
  · intro i h1 h2
    have h3 : i < xs.toList.reverse.length := h2
    simp only [List.getElem_map, List.getElem_range]
    rw [List.getElem?_eq_getElem h3]
    rfl
theorem rev_applied {sl : Addr} {u : Tok} {n : Nat} {Q : Int × Int × Nat → Shared → Prop} (hs : s.heap.IsSliceOf sl .none .none (.int (-1) u)) (h : Q ((n : Int) - 1, -1, n) s) : wpAny (model prog w) A (Builtin.Slice.sliceApplied (.ref sl) (pure (n : Int))) Q E s := by
  obtain ⟨os, hos, hcs, hds⟩ := id hs
  unfold Builtin.Slice.sliceApplied Builtin.Slice.sliceFields
  refine wpAny_bind (wpAny_bind (wpAny_field hos hds (x := .none) rfl (wpAny_bind (wpAny_field hos hds (x := .none) rfl (wpAny_bind (wpAny_field hos hds (x := .int (-1) u) rfl (wpAny_pure ?_)))))))
  refine wpAny_bind (HT.slicePart_ (.int (-1) u) ?_)
  refine (show wpAny _ _ (if (((-1 : Int)) == 0) = true then _ else _) _ _ s from ?_)
  rw [if_neg (by decide)]
  refine wpAny_bind (HT.slicePart_ .none (wpAny_bind (HT.slicePart_ .none (wpAny_bind (wpAny_pure ?_)))))
  have e1 : Builtin.Slice.sliceAdjust none none (-1) (n : Int) = ((n : Int) - 1, -1) := by unfold Builtin.Slice.sliceAdjust; simp
  have e2 : Builtin.Slice.slicePlaces ((n : Int) - 1) (-1) (-1) = n := by
    unfold Builtin.Slice.slicePlaces
    have h1 : ¬ ((-1 : Int) > 0) := by omega
    simp only [h1, if_false]
    have h2 : ((n : Int) - 1 - -1 - 1) / - -1 = (n : Int) - 1 := by
      have h3 : (- -1 : Int) = 1 := rfl
      rw [h3, Int.ediv_one]
      omega
    rw [h2]
    split <;> omega
  refine (show wpAny _ _ (match Builtin.Slice.sliceAdjust none none (-1) (n : Int) with | (lo, hi) => pure (lo, (-1 : Int), Builtin.Slice.slicePlaces lo hi (-1))) _ _ s from ?_)
  rw [e1]
  refine (show wpAny _ _ (pure ((n : Int) - 1, (-1 : Int), Builtin.Slice.slicePlaces ((n : Int) - 1) (-1) (-1))) _ _ s from ?_)
  rw [e2]
  exact wpAny_pure h
theorem item_rev {t sl : Addr} {items : Array Value} {u : Tok} {Q : Value → Shared → Prop} (ht : IsTup s.heap t items) (hs : s.heap.IsSliceOf sl .none .none (.int (-1) u)) (hsz : items.size ≤ sizeLine)
    (h : Q (.ref s.heap.objs.size) { s with heap := s.heap.push { cls := .type "tuple", data := .seq items.toList.reverse.toArray } }) : wpAny (model prog w) A (getItem (.ref t) (.ref sl)) Q E s := by
  have z : sizeOk (.seq items.toList.reverse.toArray) := by
    show items.toList.reverse.toArray.size ≤ sizeLine
    simpa using hsz
  obtain ⟨os, hos, hcs, hds⟩ := id hs
  have ty : s.TypeIs (.ref sl) "slice" := ⟨os, hos, hcs⟩
  unfold getItem
  try with_reducible refine wpAny_holding ?_
  first | refine wpAny_bind (wpAny_pure ?_) | skip
  refine wpAny_bind (wpAny_sequenceKey ht.typeIs (by decide) (wpAny_bind (wpAny_callSpecial?_slot (name := Str.ofString "__getitem__") ht.typeIs PyProof.Rows.slot_tuple_getitem (wpAny_call_entry PyProof.Rows.slot_tuple_getitem ht.typeIs PyProof.Rows.entry_tuple_getitem ?_ (PyProof.Rows.args_tuple_getitem _ _)))))
  refine (show wpAny _ _ (Builtin.Tuple.tupleItemsOf (.ref t) >>= _) _ _ s from wpAny_bind (PyProof.Rows.tupleItemsOf_ ht (wpAny_bind (wpAny_typeOf ty ?_))))
  rw [if_pos (by decide)]
  refine wpAny_bind (rev_applied hs ?_)
  have no : ¬ ((((items.size : Int) - 1) == 0 && (-1 : Int) == 1 && items.size == items.size) = true) := by simp
  refine (show wpAny _ _ (if (((items.size : Int) - 1) == 0 && (-1 : Int) == 1 && items.size == items.size) = true then _ else _) _ _ s from ?_)
  rw [if_neg no, rev_pick]
  first
    | exact wpAny_bind (m := Builtin.Tuple.tupleExact _) (wpAny_newObj_type (wpAny_pure ⟨_, rfl, wpAny_pure h⟩) z)
    | exact wpAny_bind (m := Builtin.Tuple.tupleExact _) (wpAny_newObj_type (wpAny_bind (wpAny_pure (wpAny_pure ⟨_, rfl, wpAny_pure h⟩))) z)
    | exact wpAny_bind (wpAny_bind (m := Builtin.Tuple.tupleExact _) (wpAny_newObj_type (wpAny_pure (wpAny_pure ⟨_, rfl, wpAny_pure h⟩)) z))
    | exact wpAny_bind (wpAny_bind (m := Builtin.Tuple.tupleExact _) (wpAny_newObj_type (wpAny_pure ⟨_, rfl, wpAny_pure h⟩) z))
end
section
variable {W : Wd} {F0 : Hp} {X : Cx} {pos : Pos} {e : Expr} {te : TED}
def dRevT (te : TED) : TED := fun δ M k => te δ M fun x M1 => match x with | .tup ds => k (.tup ds.reverse) M1 | _ => False
theorem pd_revT {k : Nat} {p1 p2 p3 : Pos} (he : PED W F0 X e te) : PED W F0 X (.Subscript e (.Slice none none (some (.UnaryOp .USub (.Constant (.int 1) k p1) p2)) p3) pos) (dRevT te) :=
  ⟨fun pins s σ H Q I ⟨δ, F, M, kk, hs, R, h, g⟩ => PyProof.Rows.Subscript_ (thn (he.run pins s σ H (fun v H1 => ∃ F1 M1 ds a xs, v = .ref a ∧ Rep W F F1 M1 H1 ∧ F1 a = some (.tup xs) ∧ Rds F1 ds xs ∧ kk (.tup ds.reverse) M1) I ⟨δ, F, M, _, hs, R, h, fun x M1 h1 v F1 H1 R1 r1 => by
      cases x with
      | tup ds => obtain ⟨a, xs, rfl, ea, rr⟩ := r1; exact ⟨F1, M1, ds, a, xs, rfl, R1, ea, rr, h1⟩
      | _ => exact h1.elim⟩) fun v s1 ⟨x, H1, I1, r1, F1, M1, ds, a, xs, ev, R1, ea, rr, hk⟩ => by
    subst ev
    cases r1
    have hst : PO X (some (.UnaryOp .USub (.Constant (.int 1) k p1) p2)) (tPart (tUn (rU fun i => .int (-i)) (tC (.int 1)))) := po_some (pe_un un_neg pe_int)
    refine wpAny_Slice (thn (po_none.run pins s1 σ H1 (fun o H2 => o = none ∧ H2 = H1) I1 ⟨rfl, rfl⟩) fun vl s2 ⟨l, H2, I2, pl, el, e2⟩ => ?_)
    subst el; subst e2
    refine thn (po_none.run pins s2 σ H2 (fun o H3 => o = none ∧ H3 = H2) I2 ⟨rfl, rfl⟩) fun vu s3 ⟨u, H3, I3, pu, eu, e3⟩ => ?_
    subst eu; subst e3
    refine thn (hst.run pins s3 σ H3 (fun o H4 => o = some (-1) ∧ H4 = H3) I3 ⟨1, rfl, -1, rfl, rfl, rfl⟩) fun vs s4 ⟨o, H4, I4, ps, eo, e4⟩ => ?_
    subst eo; subst e4
    cases pl; cases pu
    cases ps with
    | int i t =>
      have I5 : Inv X pins σ H4 { s4 with heap := s4.heap.push { cls := .type "slice", data := .fields #[.none, .none, .int (-1) t] } } := I4.kept (t' := s4.toks) fun b ob q => Heap.get?_push_of_some _ q
      obtain ⟨its, r, ht, hz⟩ := I5.tuple (SqT.of (R1.le _ _ ea))
      have hl := r.length
      refine (show wpAny (model X.prog X.w) X.A (PyProof.Rows.subscriptTail e (.Slice none none (some (.UnaryOp .USub (.Constant (.int 1) k p1) p2)) p3) (.ref a) (.ref s4.heap.objs.size)) (EP X pins σ Q) X.xe { s4 with heap := s4.heap.push { cls := .type "slice", data := .fields #[.none, .none, .int (-1) t] } } from ?_)
      refine PyProof.Rows.tail_any (ops := [.ref a, .ref s4.heap.objs.size]) ht.typeIs PyProof.Rows.slot_tuple_getitem.lookup ?_ (by with_unfolding_all rfl)
      refine item_rev ht (Heap.IsSliceOf.new _ .none .none (.int (-1) t)) (by rw [List.size_toArray]; omega) ?_
      have np := I5.hok.fresh (Nat.le_refl _)
      refine ⟨.ref _, _, I5.laid (t' := s4.toks) (o := .tup xs.reverse) (fun b ob q => Heap.get?_push_of_some _ q) (Nat.le_refl _) ?_, rfl, g _ _ hk _ _ _ (R1.newF np) ⟨_, _, rfl, upd_same, (rr.reverse).le (Le.new (R1.fresh np).2)⟩⟩
      exact ⟨by rw [List.length_reverse]; exact hz, its.reverse, r.reverse, ⟨_, Heap.get?_push_size _ (by rfl), rfl, _, rfl⟩⟩)⟩
end
end DL
set_option maxHeartbeats 2000000
namespace DL
open PySem PySem.Spec L2
/-! ### a list or dict of the store that is no more looked at -/
def MO.loose : MO → Bool
  | .lst _ => true
  | .dic _ => true
  | _ => false
theorem Rep.forget {W : Wd} {F0 F : Hp} {M : Sto} {H : Hp} {a : Addr} {m : MO} (R : Rep W F0 F M H) (h : M a = some m) (hm : m.loose = true) : Rep W F0 F (delM M a) H := by
  refine ⟨R.base, R.le, fun b mo q => ?_, R.tabs, R.nt, R.scr⟩
  unfold delM at q
  split at q
  · cases q
  · obtain ⟨h1, h2⟩ := R.mo b mo q
    refine ⟨h1, h2.grow (fun _ _ z => z) fun c o z => ?_⟩
    unfold delM
    by_cases hc : c = a
    · subst hc
      rw [h] at z; cases z
      cases hm
    · rw [if_neg hc]; exact z
def sForget (i : Nat) (t : TSD) : TSD := fun D δ M => match δ[i]? with
  | some (some (.ref a)) => (match M a with | some m => m.loose = true ∧ t D (δ.set i none) (delM M a) | none => False)
  | _ => False
section
variable {W : Wd} {F0 : Hp} {X : Cx} {st : Stmt} {ts : TSD}
theorem psd_forget (i : Nat) (h : PSD W F0 X st ts) : PSD W F0 X st (sForget i ts) :=
  PS.wk h fun D σ H ⟨δ, F, M, d, hs, R, h, g⟩ => by
    unfold sForget at h
    split at h
    · rename_i a ea
      split at h
      · rename_i m em
        refine ⟨δ.set i none, F, delM M a, d, ⟨by simp [hs.1], fun j e q => ?_⟩, R.forget em h.1, h.2, g⟩
        by_cases hj : j = i
        · subst hj
          rw [List.getElem?_set_self (by have := (List.getElem?_eq_some_iff.mp ea).1; exact this)] at q
          cases q
        · rw [List.getElem?_set_ne (Ne.symm hj)] at q
          exact hs.2 j e q
      · exact h.elim
    · exact h.elim
/-- the deck in slot i is closed: from now on it is told by its shape alone -/
def sSeal (i : Nat) (k1 k2 k3 : Str) (t : TSD) : TSD := fun dn δ M => match δ[i]? with
  | some (some (.ref a)) => ∃ (l : Addr) (cells : List Int) (m n : Int) (ex : List (Key × D)), M a = some (.dic (dkOpen ⟨k1, k2, k3, ex⟩ l m n)) ∧ M l = some (.lst (cells.map D.int)) ∧ cells.length ≤ 63 ∧ t dn δ (updM (updM M l (.part a)) a (.deck ⟨k1, k2, k3, ex⟩))
  | _ => False
theorem psd_seal (i : Nat) (k1 k2 k3 : Str) (h : PSD W F0 X st ts) : PSD W F0 X st (sSeal i k1 k2 k3 ts) :=
  PS.wk h fun Dn σ H ⟨δ, F, M, d, hs, R, h, g⟩ => by
    unfold sSeal at h
    split at h
    · obtain ⟨l, cells, m, n, ex, h1, h2, h3, h4⟩ := h
      exact ⟨δ, F, _, d, hs, R.seal h1 h2 h3, h4, g⟩
    · exact h.elim
end
/-- no address is looked at twice -/
theorem updM_del {M : Sto} {p : Addr} {o : MO} (h : M p = none) : delM (updM M p o) p = M := delM_upd h
theorem updM_upd {M : Sto} {p : Addr} {o u : MO} : updM (updM M p o) p u = updM M p u := by
  funext b
  unfold updM
  split <;> rfl
end DL
set_option maxHeartbeats 2000000
namespace DL
open PySem PySem.Spec L2
theorem hu1 {k : Nat} {A : Around} (r : Room k A) : A.units + 1 < cLine := by have := r.units; omega
section
variable {W : Wd} {F0 : Hp} {X : Cx} {x f : Str} {C : Addr} {k : Nat} {e : Expr} {te : TED} {p pos pos2 : Pos} {eD : Sl → XKD}
theorem pd_globI {i : Int} (hg : Gl X x) (hm : ∃ t, X.mg x = some (.int i t)) (hdb : (x == ("__debug__" : Str)) = false := by decide) : PED W F0 X (.Name x pos) (dC (.int i)) :=
  let ⟨t, h⟩ := hm; pd_glob hg h (v := .int i) ⟨t, rfl⟩ (fun _ => rfl) hdb
theorem pd_globR {a : Addr} (hg : Gl X x) (hm : X.mg x = some (.ref a)) (hdb : (x == ("__debug__" : Str)) = false := by decide) : PED W F0 X (.Name x pos) (dC (.ref a)) :=
  pd_glob hg hm (v := .ref a) rfl (fun _ => rfl) hdb
/-- an own exception class under Exception with an __init__ of one field -/
def MkX (P : Program) (w : World) (K : PySem.W.Frag) (mg : Str → Option Value) (base : Heap) (k : Nat) (x : Str) (C : Addr) (f : Str) : Prop := mg x = some (.ref C) ∧ OX K C ∧ PySem.W.takerIn K C f = some none ∧
  ∃ (fI : Addr) (fd : FuncData) (ps : List Str), PySem.W.findIn K (.ref C) "__init__" = some (some (.ref fI)) ∧ PySem.W.typeIn K (.ref fI) = some (.type "function") ∧ FnOk P w K mg base CX0 k fI fd ps (spInit K f) ∧ Binds K fd ps []
theorem psd_raiseC (hc : X.calm = true) (hR : RzD W F0 X eD) (m : MkX X.prog X.w X.K X.mg X.base k x C f) (hr : Room (k + 1) X.A) (he : PED W F0 X e te) (hg : Gl X x := by rfl)
    (hdb : (x == ("__debug__" : Str)) = false := by decide) (hst : starEach [e] X.env = (false, eval e X.env) :: starEach [] X.env := by rfl) (hpl : (backTo pos (starEach [] X.env)).any (·.1) = false := by rfl) :
    PSD W F0 X (.Raise (some (.Call (.Name x p) [e] [] pos)) none pos2) (dRaise eD C f te) :=
  let ⟨hm, T, ht, fI, fd, ps, iC, tI, F1, hb⟩ := m; psd_raise hc hR T ht iC tI F1 hr hb hm he hg hdb hst hpl
end
end DL
set_option maxHeartbeats 2000000
namespace DL
open PySem PySem.Spec L2
/-! ### readings of derivations -/
theorem rd_if {tt : TTD} {t u : TSD} {d : EndD} {δ : Sl} {M : Sto} (b : Bool) (ht : ∀ k : Bool → Sto → Prop, k b M → tt δ M k) (h1 : b = true → t d δ M) (h2 : b = false → u d δ M) : dIfS tt t u d δ M := by
  refine ht _ ?_
  cases b with
  | true => exact h1 rfl
  | false => exact h2 rfl
theorem rd_ifE {tt : TTD} {t u : TED} {k : DKt} {δ : Sl} {M : Sto} (b : Bool) (ht : ∀ k : Bool → Sto → Prop, k b M → tt δ M k) (h1 : b = true → t δ M k) (h2 : b = false → u δ M k) : dIf tt t u δ M k := by
  refine ht _ ?_
  cases b with
  | true => exact h1 rfl
  | false => exact h2 rfl
theorem rd_if0 {tt : TTD} {t : TSD} {d : EndD} {δ : Sl} {M : Sto} (b : Bool) (ht : ∀ k : Bool → Sto → Prop, k b M → tt δ M k) (h1 : b = true → t d δ M) (h2 : b = false → d.nx δ M) : dIfS tt t dNext d δ M := rd_if b ht h1 h2
theorem rd_ret {te : TED} {d : EndD} {δ : Sl} {M : Sto} (h : te δ M d.rt) : dRet te d δ M := h
/-- if ..: (leaves), then the rest -/
theorem rd_cut {tt : TTD} {t u : TSD} {d : EndD} {δ : Sl} {M : Sto} (b : Bool) (ht : ∀ k : Bool → Sto → Prop, k b M → tt δ M k) (h1 : b = true → t { d with nx := u d } δ M) (h2 : b = false → u d δ M) : dSeq (dIfS tt t dNext) u d δ M := rd_if b ht h1 h2
theorem rd_seq {te : TED} {i : Nat} {u : TSD} {d : EndD} {δ : Sl} {M : Sto} (h : te δ M fun x M1 => u d (δ.set i (some x)) M1) : dSeq (dSet i te) u d δ M := h
/-- the store may have changed in the test -/
theorem rd_ifM {tt : TTD} {t u : TSD} {d : EndD} {δ : Sl} {M : Sto} (h : tt δ M fun b M1 => (b = true → t d δ M1) ∧ (b = false → u d δ M1)) (mono : ∀ k k' : Bool → Sto → Prop, (∀ b M, k b M → k' b M) → tt δ M k → tt δ M k') : dIfS tt t u d δ M :=
  mono _ _ (fun b M ⟨h1, h2⟩ => by
    cases b with
    | true => exact h1 rfl
    | false => exact h2 rfl) h
theorem rd_and {tt tu : TTD} {δ : Sl} {M : Sto} (a b : Bool) (h1 : ∀ k : Bool → Sto → Prop, k a M → tt δ M k) (h2 : a = true → ∀ k : Bool → Sto → Prop, k b M → tu δ M k) (k : Bool → Sto → Prop) (h : k (a && b) M) : dAnd tt tu δ M k := by
  refine h1 _ ?_
  cases a with
  | true => exact h2 rfl _ h
  | false => exact h
theorem rd_or {tt tu : TTD} {δ : Sl} {M : Sto} (a b : Bool) (h1 : ∀ k : Bool → Sto → Prop, k a M → tt δ M k) (h2 : a = false → ∀ k : Bool → Sto → Prop, k b M → tu δ M k) (k : Bool → Sto → Prop) (h : k (a || b) M) : dOr tt tu δ M k := by
  refine h1 _ ?_
  cases a with
  | true => exact h
  | false => exact h2 rfl _ h
theorem rd_not {tt : TTD} {δ : Sl} {M : Sto} (a : Bool) (h1 : ∀ k : Bool → Sto → Prop, k a M → tt δ M k) (k : Bool → Sto → Prop) (h : k (!a) M) : dNot tt δ M k := h1 _ h
theorem rd_andV {ta tb : TED} {δ : Sl} {M : Sto} (a b : Bool) (h1 : ∀ k : DKt, k (.bl a) M → ta δ M k) (h2 : a = true → ∀ k : DKt, k (.bl b) M → tb δ M k) (k : DKt) (h : k (.bl (a && b)) M) : dAndV ta tb δ M k := by
  refine h1 _ ?_
  cases a with
  | true => exact h2 rfl _ h
  | false => exact h
theorem rd_orV {ta tb : TED} {δ : Sl} {M : Sto} (a b : Bool) (h1 : ∀ k : DKt, k (.bl a) M → ta δ M k) (h2 : a = false → ∀ k : DKt, k (.bl b) M → tb δ M k) (k : DKt) (h : k (.bl (a || b)) M) : dOrV ta tb δ M k := by
  refine h1 _ ?_
  cases a with
  | true => exact h
  | false => exact h2 rfl _ h
/-- a <= b < c of ints -/
theorem rd_chain {r r' : R2D} {ta tb tc : TED} {δ : Sl} {M : Sto} (a b : Bool) (h : ∀ k : DKt, (match a with | true => k (.bl b) M | false => k (.bl false) M) → dChain r r' ta tb tc δ M k) (k : DKt) (hk : k (.bl (a && b)) M) : dChain r r' ta tb tc δ M k := by
  refine h k ?_
  cases a <;> exact hk
/-- all that one store holds another holds -/
def Sub (M M' : Sto) : Prop := ∀ a m, M a = some m → M' a = some m
theorem sub_upd {M : Sto} {p : Addr} {o : MO} (h : M p = none) : Sub M (updM M p o) := fun a m e => by rw [updM_ne (fun z => by rw [z, h] at e; cases e)]; exact e
/-- one turn of a list comprehension: none, the test fails -/
def elD (g : TGD) (tt : TTD) (te : TED) (vs : List Nat) (δ : Sl) (d : D) (M : Sto) (kx : Option D → Sto → Prop) : Prop := g d (wipeD δ vs) M fun δ2 M2 => tt δ2 M2 fun b M3 => match b with
  | true => te δ2 M3 fun y M4 => kx (some y) M4
  | false => kx none M3
theorem lc_of {g : TGD} {tt : TTD} {te : TED} {vs : List Nat} {δ : Sl} {p : Addr} {M : Sto} {k : List D → Sto → Prop} (inv : List D → List D → Prop) (hp : M p = none)
    (step : ∀ d r acc, inv (d :: r) acc → ∀ kx : Option D → Sto → Prop, (∀ o, inv r (acc ++ o.toList) → kx o (updM M p (.lst acc))) → elD g tt te vs δ d (updM M p (.lst acc)) kx) (fin : ∀ acc, inv [] acc → k acc M) :
    ∀ (ds acc : List D), acc.length + ds.length ≤ sizeLine → inv ds acc → lcD g tt te vs δ p ds acc M k
  | [], acc, _, h => fin acc h
  | d :: ds, acc, hl, h => by
    rw [List.length_cons] at hl
    refine step d ds acc h (fun o M4 => match o with
      | some y => acc.length < sizeLine ∧ ∃ M5, M5 p = none ∧ M4 = updM M5 p (.lst acc) ∧ lcD g tt te vs δ p ds (acc ++ [y]) M5 k
      | none => ∃ M5, M5 p = none ∧ M4 = updM M5 p (.lst acc) ∧ lcD g tt te vs δ p ds acc M5 k) fun o ho => ?_
    cases o with
    | some y => exact ⟨by omega, M, hp, rfl, lc_of inv hp step fin ds (acc ++ [y]) (by rw [List.length_append, List.length_singleton]; omega) ho⟩
    | none => exact ⟨M, hp, rfl, lc_of inv hp step fin ds acc (by omega) (by simpa using ho)⟩
/-- no effects -/
theorem lc_pure {g : TGD} {tt : TTD} {te : TED} {vs : List Nat} {δ : Sl} {p : Addr} {M : Sto} {k : List D → Sto → Prop} {ds : List D} (fo : D → Option D) (hp : M p = none) (hl : ds.length ≤ sizeLine)
    (step : ∀ d ∈ ds, ∀ (Mx : Sto), Sub M Mx → ∀ (kx : Option D → Sto → Prop), kx (fo d) Mx → elD g tt te vs δ d Mx kx) (h : k (ds.filterMap fo) M) : lcD g tt te vs δ p ds [] M k := by
  refine lc_of (fun r acc => (∀ d ∈ r, d ∈ ds) ∧ acc ++ r.filterMap fo = ds.filterMap fo) hp (fun d r acc ⟨h1, h2⟩ kx hx => step d (h1 d List.mem_cons_self) _ (sub_upd hp) _ (hx _ ⟨fun x hx => h1 x (List.mem_cons_of_mem _ hx), ?_⟩)) (fun acc ⟨_, h2⟩ => ?_) ds [] (by simpa using hl) ⟨fun _ z => z, rfl⟩
  · rw [← h2, List.filterMap_cons]
    cases fo d <;> simp
  · rw [List.filterMap_nil, List.append_nil] at h2
    rw [h2]; exact h
theorem lc_map {g : TGD} {tt : TTD} {te : TED} {vs : List Nat} {δ : Sl} {p : Addr} {M : Sto} {k : List D → Sto → Prop} {ds : List D} (fo : D → D) (hp : M p = none) (hl : ds.length ≤ sizeLine)
    (step : ∀ d ∈ ds, ∀ (Mx : Sto), Sub M Mx → ∀ (kx : Option D → Sto → Prop), kx (some (fo d)) Mx → elD g tt te vs δ d Mx kx) (h : k (ds.map fo) M) : lcD g tt te vs δ p ds [] M k :=
  lc_pure (fun d => some (fo d)) hp hl step (by rw [show (fun d => some (fo d)) = some ∘ fo from rfl, List.filterMap_eq_map]; exact h)
/-- for: inv rest δ M ahead of each turn -/
theorem for_of {g : TGD} {tb : TSD} {D0 : EndD} (inv : List D → Sl → Sto → Prop)
    (step : ∀ d r δ M (K : Sl → Sto → Prop), inv (d :: r) δ M → (∀ δ' M', inv r δ' M' → K δ' M') → g d δ M fun δ2 M2 => tb { nx := K, ct := K, bk := D0.nx, rt := D0.rt } δ2 M2) (fin : ∀ δ M, inv [] δ M → D0.nx δ M) :
    ∀ (ds : List D) (δ : Sl) (M : Sto), inv ds δ M → forD g tb ds D0 δ M
  | [], δ, M, h => fin δ M h
  | d :: ds, δ, M, h => step d ds δ M (fun δ' M' => forD g tb ds D0 δ' M') h fun δ' M' h' => for_of inv step fin ds δ' M' h'
theorem rd_itL {te : TED} {δ : Sl} {M M1 : Sto} {ds : List D} (h : ∀ k : DKt, k (.lst ds) M1 → te δ M k) (k : List D → Sto → Prop) (hk : k ds M1) : dItL te δ M k := h _ hk
theorem rd_itT {te : TED} {δ : Sl} {M M1 : Sto} {ds : List D} (h : ∀ k : DKt, k (.tup ds) M1 → te δ M k) (k : List D → Sto → Prop) (hk : k ds M1) : dItT te δ M k := h _ hk
theorem rd_lc {ti : TID} {g : TGD} {tt : TTD} {te : TED} {vs : List Nat} {δ : Sl} {M M1 : Sto} {ds : List D} (hi : ∀ k : List D → Sto → Prop, k ds M1 → ti δ M k) (k : DKt) (h : ∀ p, M1 p = none → lcD g tt te vs δ p ds [] M1 fun acc M2 => M2 p = none ∧ k (.lst acc) M2) : dLc ti g tt te vs δ M k := hi _ h
/-- .. whose elements are told by a function -/
theorem rd_lcm {ti : TID} {g : TGD} {tt : TTD} {te : TED} {vs : List Nat} {δ : Sl} {M M1 : Sto} {ds : List D} (fo : D → D) (hi : ∀ k : List D → Sto → Prop, k ds M1 → ti δ M k) (hl : ds.length ≤ sizeLine)
    (step : ∀ d ∈ ds, ∀ (Mx : Sto), Sub M1 Mx → ∀ (kx : Option D → Sto → Prop), kx (some (fo d)) Mx → elD g tt te vs δ d Mx kx) (k : DKt) (hk : k (.lst (ds.map fo)) M1) : dLc ti g tt te vs δ M k := rd_lc hi k fun p hp => lc_map fo hp hl step ⟨hp, hk⟩
theorem rd_lcf {ti : TID} {g : TGD} {tt : TTD} {te : TED} {vs : List Nat} {δ : Sl} {M M1 : Sto} {ds : List D} (fo : D → Option D) (hi : ∀ k : List D → Sto → Prop, k ds M1 → ti δ M k) (hl : ds.length ≤ sizeLine)
    (step : ∀ d ∈ ds, ∀ (Mx : Sto), Sub M1 Mx → ∀ (kx : Option D → Sto → Prop), kx (fo d) Mx → elD g tt te vs δ d Mx kx) (k : DKt) (hk : k (.lst (ds.filterMap fo)) M1) : dLc ti g tt te vs δ M k := rd_lc hi k fun p hp => lc_pure fo hp hl step ⟨hp, hk⟩
theorem rd_cb1 {r : RnD} {te : TED} {δ : Sl} {M M1 : Sto} {d : D} (k : DKt) (h : ∀ k : DKt, k d M1 → te δ M k) (hr : r [d] M1 k) : dCB r (dCons te dNil) δ M k := h _ hr
theorem rd_for {ti : TID} {g : TGD} {tb u : TSD} {d : EndD} {δ : Sl} {M M1 : Sto} {ds : List D} (inv : List D → Sl → Sto → Prop) (hi : ∀ k : List D → Sto → Prop, k ds M1 → ti δ M k) (h0 : inv ds δ M1)
    (step : ∀ x r δ M (K : Sl → Sto → Prop), inv (x :: r) δ M → (∀ δ' M', inv r δ' M' → K δ' M') → g x δ M fun δ2 M2 => tb { nx := K, ct := K, bk := u d, rt := d.rt } δ2 M2) (fin : ∀ δ M, inv [] δ M → u d δ M) : dSeq (dFor ti g tb) u d δ M :=
  hi _ (for_of (D0 := { d with nx := u d }) inv step fin ds δ M1 h0)
theorem sub_trans {M M1 M2 : Sto} (a : Sub M M1) (b : Sub M1 M2) : Sub M M2 := fun c m e => b c m (a c m e)
/-- a dict comprehension's turn -/
def elK (g : TGD) (tt : TTD) (tk tv : TED) (vs : List Nat) (δ : Sl) (d : D) (M : Sto) (kx : Option (Key × D) → Sto → Prop) : Prop := g d (wipeD δ vs) M fun δ2 M2 => tt δ2 M2 fun b M3 => match b with
  | true => tk δ2 M3 fun y M4 => tv δ2 M4 fun z M5 => match keyD y with
    | some kk => kx (some (kk, z)) M5
    | none => False
  | false => kx none M3
theorem keyD_kk (kk : Key) : keyD (match kk with | .inl j => D.int j | .inr x => .str x) = some kk := by cases kk <;> rfl
theorem dc_pure {g : TGD} {tt : TTD} {tk tv : TED} {vs : List Nat} {δ : Sl} {p : Addr} {M : Sto} {k : List (Key × D) → Sto → Prop} (fo : D → Option (Key × D)) (hp : M p = none) :
    ∀ (ds : List D) (acc : List (Key × D)), acc.length + ds.length ≤ sizeLine → (∀ d ∈ ds, ∀ (Mx : Sto), Sub M Mx → ∀ (kx : Option (Key × D) → Sto → Prop), kx (fo d) Mx → elK g tt tk tv vs δ d Mx kx) →
      k ((ds.filterMap fo).foldl (fun acc kv => putD acc kv.1 kv.2) acc) M → (∀ (l : List (Key × D)) kk v, (putD l kk v).length ≤ l.length + 1) → dcD g tt tk tv vs δ p ds acc M k
  | [], acc, _, _, h, _ => h
  | d :: ds, acc, hl, step, h, pl => by
    rw [List.length_cons] at hl
    have rec_ := fun acc' hl' h' => dc_pure (g := g) (tt := tt) (tk := tk) (tv := tv) (vs := vs) (δ := δ) (k := k) fo hp ds acc' hl' (fun x hx => step x (List.mem_cons_of_mem _ hx)) h' pl
    have key : ∀ Mx, Sub M Mx → ∀ (kx : Option (Key × D) → Sto → Prop), kx (fo d) Mx → elK g tt tk tv vs δ d Mx kx := step d List.mem_cons_self
    have conv : elK g tt tk tv vs δ d (updM M p (.dic acc)) (fun o M5 => match o with
        | some (kk, z) => acc.length < sizeLine ∧ ∃ M6, M6 p = none ∧ M5 = updM M6 p (.dic acc) ∧ dcD g tt tk tv vs δ p ds (putD acc kk z) M6 k
        | none => ∃ M6, M6 p = none ∧ M5 = updM M6 p (.dic acc) ∧ dcD g tt tk tv vs δ p ds acc M6 k) → dcD g tt tk tv vs δ p (d :: ds) acc M k := fun z => z
    refine conv (key _ (sub_upd hp) _ ?_)
    rw [List.filterMap_cons] at h
    cases e : fo d with
    | none => rw [e] at h; exact ⟨M, hp, rfl, rec_ acc (by omega) h⟩
    | some kv =>
      rw [e] at h
      obtain ⟨kk, z⟩ := kv
      exact ⟨by omega, M, hp, rfl, rec_ (putD acc kk z) (by have := pl acc kk z; omega) h⟩
theorem putD_len (l : List (Key × D)) (kk : Key) (v : D) : (putD l kk v).length ≤ l.length + 1 := by
  unfold putD
  split <;> simp
theorem rd_chainI {p q : Int → Int → Bool} {ta tb tc : TED} {δ : Sl} {M : Sto} (a b c : Int) (ha : ∀ k : DKt, k (.int a) M → ta δ M k) (hb : ∀ k : DKt, k (.int b) M → tb δ M k) (hc : ∀ k : DKt, k (.int c) M → tc δ M k) (k : DKt) (h : k (.bl (p a b && q b c)) M) : dChain (rI2 p) (rI2 q) ta tb tc δ M k := by
  unfold dChain
  refine ha _ (hb _ ?_)
  dsimp only [rI2]
  cases e : p a b with
  | true => rw [e] at h; exact hc _ h
  | false => rw [e] at h; exact h
theorem blsOf_mapF (f : D → Bool) : ∀ xs : List D, blsOf (xs.map fun x => .bl (f x)) = some (xs.map f)
  | [] => rfl
  | x :: xs => by
    show (blsOf (xs.map fun x => .bl (f x))).map (f x :: ·) = _
    rw [blsOf_mapF f xs]; rfl
theorem rd_all {f : D → Bool} {xs : List D} {M : Sto} {k : DKt} (h : k (.bl (xs.all f)) M) : rAllD [.lst (xs.map fun x => .bl (f x))] M k := by
  show (match lstOf M (.lst (xs.map fun x => .bl (f x))) with | some ys => (match blsOf ys with | some bs => k (.bl (bs.all id)) M | none => False) | none => False)
  show (match blsOf (xs.map fun x => .bl (f x)) with | some bs => k (.bl (bs.all id)) M | none => False)
  rw [blsOf_mapF]
  have e : (xs.map f).all id = xs.all f := by rw [List.all_map]; rfl
  show k (.bl ((xs.map f).all id)) M
  rw [e]; exact h
theorem intsOf_mapF (f : D → Int) : ∀ xs : List D, intsOf (xs.map fun x => .int (f x)) = some (xs.map f)
  | [] => rfl
  | x :: xs => by
    show (intsOf (xs.map fun x => .int (f x))).map (f x :: ·) = _
    rw [intsOf_mapF f xs]; rfl
theorem intsOf_ints (ns : List Int) : intsOf (ns.map D.int) = some ns := by
  induction ns with
  | nil => rfl
  | cons n ns ih =>
    show (intsOf (ns.map D.int)).map (n :: ·) = _
    rw [ih]; rfl
theorem el_yes {i : Nat} {te : TED} {vs : List Nat} {δ : Sl} {d : D} {M : Sto} {kx : Option D → Sto → Prop} (h : te ((wipeD δ vs).set i (some d)) M fun y M4 => kx (some y) M4) : elD (gNm i) dYes te vs δ d M kx := h
theorem el_yes2 {i j : Nat} {te : TED} {vs : List Nat} {δ : Sl} {x y : D} {M : Sto} {kx : Option D → Sto → Prop} (h : te (((wipeD δ vs).set i (some x)).set j (some y)) M fun y M4 => kx (some y) M4) : elD (gTpD 2 (gCnD (gNm i) (gCnD (gNm j) gNlD))) dYes te vs δ (.tup [x, y]) M kx := ⟨rfl, h⟩
theorem el_if {i : Nat} {tt : TTD} {te : TED} {vs : List Nat} {δ : Sl} {d : D} {M : Sto} {kx : Option D → Sto → Prop} (b : Bool) (ht : ∀ k : Bool → Sto → Prop, k b M → tt ((wipeD δ vs).set i (some d)) M k) (h1 : b = true → te ((wipeD δ vs).set i (some d)) M fun y M4 => kx (some y) M4) (h2 : b = false → kx none M) : elD (gNm i) tt te vs δ d M kx := by
  refine ht _ ?_
  cases b with
  | true => exact h1 rfl
  | false => exact h2 rfl
theorem el_if2 {i j : Nat} {tt : TTD} {te : TED} {vs : List Nat} {δ : Sl} {x y : D} {M : Sto} {kx : Option D → Sto → Prop} (b : Bool) (ht : ∀ k : Bool → Sto → Prop, k b M → tt (((wipeD δ vs).set i (some x)).set j (some y)) M k) (h1 : b = true → te (((wipeD δ vs).set i (some x)).set j (some y)) M fun y M4 => kx (some y) M4) (h2 : b = false → kx none M) : elD (gTpD 2 (gCnD (gNm i) (gCnD (gNm j) gNlD))) tt te vs δ (.tup [x, y]) M kx := by
  refine ⟨rfl, ht _ ?_⟩
  cases b with
  | true => exact h1 rfl
  | false => exact h2 rfl
theorem elk_if {i : Nat} {tt : TTD} {tk tv : TED} {vs : List Nat} {δ : Sl} {d z : D} {kk : Key} {M : Sto} {kx : Option (Key × D) → Sto → Prop} (b : Bool) (ht : ∀ k : Bool → Sto → Prop, k b M → tt ((wipeD δ vs).set i (some d)) M k)
    (h1 : b = true → tk ((wipeD δ vs).set i (some d)) M fun y M4 => tv ((wipeD δ vs).set i (some d)) M4 fun z M5 => match keyD y with | some kk => kx (some (kk, z)) M5 | none => False) (h2 : b = false → kx none M) : elK (gNm i) tt tk tv vs δ d M kx := by
  refine ht _ ?_
  cases b with
  | true => exact h1 rfl
  | false => exact h2 rfl
end DL
namespace DL
open PySem PySem.Spec L2
/-- an expression, then the list or dict in slot i is no more looked at -/
def dForget (i : Nat) (te : TED) : TED := fun δ M k => te δ M fun d M1 => match δ[i]? with
  | some (some (.ref a)) => (match M1 a with | some m => m.loose = true ∧ k d (delM M1 a) | none => False)
  | _ => False
theorem pd_forget {W : Wd} {F0 : Hp} {X : Cx} {e : Expr} {te : TED} (i : Nat) (h : PED W F0 X e te) : PED W F0 X e (dForget i te) :=
  PE.wk h fun σ H Q ⟨δ, F, M, k, hs, R, h, g⟩ => ⟨δ, F, M, _, hs, R, h, fun d M1 h1 v F1 H1 R1 r1 => by
    split at h1
    · rename_i a ea
      split at h1
      · rename_i m em
        exact g _ _ h1.2 _ _ _ (R1.forget em h1.1) r1
      · exact h1.elim
    · exact h1.elim⟩
end DL
set_option maxHeartbeats 2000000
namespace DL
open PySem PySem.Spec L2
section
variable {W : Wd} {F0 : Hp} {X : Cx} {pos : Pos} {a b c e : Expr} {t : TAD} {te : TED}
/-- a, b, c = x, y, z -/
def dPar3 (i j l : Nat) (t : TAD) : TSD := fun D δ M => t δ M fun ds M1 => match ds with | [d, e, f] => D.nx (((δ.set i (some d)).set j (some e)).set l (some f)) M1 | _ => False
theorem psd_par3 (i j l : Nat) {x y z : Str} {px py pz pt : Pos} {kt k2 pt2} (hc : X.calm = true) (hN : X.N.Nodup) (ha : PAD W F0 X [a, b, c] t) (hi : X.N[i]? = some x := by rfl) (hj : X.N[j]? = some y := by rfl) (hl : X.N[l]? = some z := by rfl) (hij : i ≠ j := by decide) (hil : i ≠ l := by decide) (hjl : j ≠ l := by decide)
    (hx : X.env.scope.names.lookup x = some .local := by rfl) (hy : X.env.scope.names.lookup y = some .local := by rfl) (hz : X.env.scope.names.lookup z = some .local := by rfl)
    (hw : swappedStores [.Tuple [.Name x px, .Name y py, .Name z pz] kt pt] (.Tuple [a, b, c] k2 pt2) X.env = pure (some [x, y, z]) := by rfl)
    (hs : swapsWithSole [.Tuple [.Name x px, .Name y py, .Name z pz] kt pt] (.Tuple [a, b, c] k2 pt2) pos.line X.env = pure false := by rfl) :
    PSD W F0 X (.Assign [.Tuple [.Name x px, .Name y py, .Name z pz] kt pt] (.Tuple [a, b, c] k2 pt2) pos) (dPar3 i j l t) :=
  PS.wk (ps_par3 hc hN hi hj hl hij hil hjl hx hy hz ha hw hs) fun D σ H ⟨δ, F, M, d, hs, R, h, gd⟩ => ⟨δ, F, M, _, hs, R, h, fun ds M1 h1 vs F1 H1 R1 r1 => by
    match ds, h1, r1 with
    | [d1, d2, d3], h1, ⟨v, _, e1, q1, w, _, e2, q2, u, _, e4, q3, e3⟩ =>
      subst e1; subst e2; subst e4; cases e3
      exact ⟨v, w, u, rfl, gd.nx _ _ h1 _ _ _ R1 ((((hs.le R1.base).set i q1).set j q2).set l q3)⟩⟩
/-- sorted(set(xs)) -/
theorem pd_sortedSet2 {p1 p2 pos2 : Pos} (hc : X.calm = true) (hm1 : X.mg "sorted" = none) (hm2 : X.mg "set" = none) (he : PED W F0 X e te) (hg1 : Gl X "sorted" := by rfl) (hg2 : Gl X "set" := by rfl)
    (st1 : starEach [.Call (.Name "set" p2) [e] [] pos2] X.env = [(false, eval (.Call (.Name "set" p2) [e] [] pos2) X.env)] := by rfl) (st2 : starEach [e] X.env = [(false, eval e X.env)] := by rfl) : PED W F0 X (.Call (.Name "sorted" p1) [.Call (.Name "set" p2) [e] [] pos2] [] pos) (dSSet te) :=
  PE.wk (pe_callB (cr_sortedSet hc) hg1 hm1 PyProof.Rows.boot_sorted (pa_cons (pe_callTy (cr_setLI hc) hg2 hm2 PyProof.Rows.boot_set (pa_cons he pa_nil st2) (by decide) (by decide) st2 rfl) pa_nil st1) (by decide) (by decide) st1 rfl) fun σ H Q ⟨δ, F, M, k, hs, R, h, g⟩ =>
    ⟨δ, F, M, _, hs, R, h, fun x M1 h1 v F1 H1 R1 r1 => by
      cases es : lstOf M1 x with
      | none => rw [es] at h1; exact h1.elim
      | some ds =>
        rw [es] at h1
        dsimp only at h1
        cases ei : intsOf ds with
        | none => rw [ei] at h1; exact h1.elim
        | some ns =>
          rw [ei] at h1
          obtain ⟨h64, hk⟩ := h1
          obtain ⟨a, xs, rfl, t, q⟩ := lstOf_at R1 es r1
          rw [intsOf_at ei t] at q
          refine ⟨a, ns, rfl, SqL.of q, by omega, fun p cc hcc np => ⟨p, _, cc, rfl, upd_same, by omega, fun ns' p' pw mem len np' => ?_⟩⟩
          have eN : ns' = sortU ns := pw_eq pw pw_sortU fun j => by rw [mem, mem_sortU, decide_eq_true_eq]
          subst eN
          have R2 := R1.junk (o := SetO X.w p (fun j => decide (j ∈ ns)) cc) np
          exact g _ _ hk _ _ _ (R2.newF np') ⟨p', _, rfl, upd_same, Rds.ints _⟩⟩
end
end DL
set_option maxHeartbeats 2000000
namespace DL
open PySem PySem.Spec L2
section
variable {W : Wd} {F0 : Hp} {X : Cx} {pos : Pos} {e : Expr} {te : TED}
/-- xs[::-1], a list that may change -/
def dRevLM (te : TED) : TED := fun δ M k => te δ M fun x M1 => match lstOf M1 x with | some ds => ∀ p, M1 p = none → k (.ref p) (updM M1 p (.lst ds.reverse)) | none => False
theorem pd_revLM {k : Nat} {p1 p2 p3 : Pos} (he : PED W F0 X e te) : PED W F0 X (.Subscript e (.Slice none none (some (.UnaryOp .USub (.Constant (.int 1) k p1) p2)) p3) pos) (dRevLM te) :=
  PE.wk (pe_revL he) fun σ H Q ⟨δ, F, M, k, hs, R, h, g⟩ => ⟨δ, F, M, _, hs, R, h, fun x M1 h1 v F1 H1 R1 r1 => by
    cases es : lstOf M1 x with
    | none => rw [es] at h1; exact h1.elim
    | some ds =>
      rw [es] at h1
      obtain ⟨a, xs, ev, t, q⟩ := lstOf_at R1 es r1
      exact ⟨a, xs, ev, SqL.of q, fun p np => g _ _ (h1 p (R1.fresh np).1) _ _ _ (R1.newM np ⟨_, upd_same, t.reverse⟩) rfl⟩⟩
end
end DL
set_option maxHeartbeats 2000000
namespace DL
open PySem PySem.Spec L2
open PyProof.Rows (envOfC)
open PySem PySem.Spec PyProof.Rows L2
/-! ### a reading that holds under a premise; defs whose code object is known; the end with K told by the head -/
def sNeed (p : Prop) (ts : TSD) : TSD := fun D δ M => p ∧ ts D δ M
theorem psd_need {W : Wd} {F0 : Hp} {X : Cx} {su : List Stmt} {ts : TSD} {p : Prop} (h : p → PSsD W F0 X su ts) : PSsD W F0 X su (sNeed p ts) :=
  ⟨fun pins s σ H Dn I ⟨δ, F, M, d, hs, R, ⟨hp, h1⟩, g⟩ => (h hp).run pins s σ H Dn I ⟨δ, F, M, d, hs, R, h1, g⟩⟩
theorem rz_none {W : Wd} {F0 : Hp} {X : Cx} : RzD W F0 X (fun _ => X0) := ⟨fun _ _ _ _ => False, fun u s' ⟨a, B, sI, pins, σ, H, cls, d, _, _, _, _, _, _, _, _, z⟩ => z.elim, fun _ _ _ _ _ C fs M' h => h.elim⟩
section
variable {CX : CXT} {P : Program} {w : World} {K : PySem.W.Frag} {mg : Str → Option Value} {base : Heap} {k : Nat} {f : Addr} {x qual : Str} {st : Stmt} {fd : FuncData} {N ps : List Str} {sp : Sp}
theorem fnG_ofC (F : L2.Fun K x qual st f fd) (S : FnScope N ps (defScope st)) (len : ∀ vs H Q E, sp vs H Q E → vs.length = ps.length)
    (hbody : ∀ (cdv : Value) (A : Around) (outer : List Env) (s : Shared) (H : Hp) (vs : List V) (Q : VK) (E : XK), cdv = fd.code → Room k (A.deeper (envOfC qual (defScope st) s.heap.objs.size f cdv)) → A.guards = some [] → sp vs H Q E →
      ∃ t, PSs (cxOf CX P w K mg base N qual (defScope st) f cdv A outer s H E) (defBody st) t ∧ t { nx := fun _ H' => Q .non H', rt := Q } (L2.start N vs) H) : FnG P w K mg base CX (k + 1) f fd ps sp := by
  obtain ⟨oc, od, kV, doc, pm, an, cdv, ct, osl, efd, lk, hcd⟩ := F.ex
  subst efd
  refine ⟨len, fun {A outer s H args us vs Q E} hr hg e0 hb rel hsp => ?_⟩
  have hK : K.In s.heap := e0.mod.kin.keeps fun b o z => (e0.bs b o z).1
  have hL : s.heap.NoLimit := e0.mod.nolimit.keeps fun b o z => (e0.bs b o z).1
  refine codeAny_call_function hr.depth (hK _ _ lk) rfl S.co S.gen rfl (PySem.W.codeRec_of hK hcd) (hb _ _ _ _ (wpAny_newFunctionEnv_cells S.kind (fun y hy => ?_) fun env ev s1 ic => ?_))
  · cases S.par y.1 (List.of_mem_zip (a := y.1) (b := y.2) hy).1 with
    | inl z => exact .inl z
    | inr z => exact .inr ⟨z, PySem.W.cellsFrom_some _ _ _ (.inl z)⟩
  subst ev
  obtain ⟨t, tp, tq⟩ := hbody cdv A outer s H vs Q E rfl (hr.deeper _) hg hsp
  refine And.intro (hL.keeps ic.toInCall.keep) (codeAny_func ?_)
  have J := inv_start (CX := CX) (P := P) (w := w) (mg := mg) (base := base) (E := E) S hr.hd e0 (len _ _ _ _ hsp) rel ic
  refine wpAny_mono (tp.run [] s1 _ H _ J tq) (fun fl s' z => ?_) fun _ _ z => z
  have out : ∀ {τ : L2.St} {H' : Hp} {v : V} {u : Value}, Inv (cxOf CX P w K mg base N qual (defScope st) f cdv A outer s H E) [] τ H' s' → RelV v u → Q v H' → CE outer P w H s Q u s' :=
    fun {τ H' v u} I rv q => Exists.intro v (Exists.intro H' ⟨I.os, I.bare, I.base, I.hok, rv, q⟩)
  rcases fl with _ | _ | _ | u
  · obtain ⟨τ, H', I, q⟩ := z; exact out (v := .non) (u := .none) I rfl q
  · obtain ⟨_, _, _, q⟩ := z; exact q.elim
  · obtain ⟨_, _, _, q⟩ := z; exact q.elim
  · obtain ⟨v, τ, H', I, rv, q⟩ := z; exact out I rv q
end
section
variable {P : Program} {w : World} {K : PySem.W.Frag} {mg : Str → Option Value} {base : Heap} {x : Str} {st : Stmt} {N ps : List Str} {k : Nat} {W : Wd} {sp : SpD}
/-- a def that makes lambdas: c its code object -/
theorem okCGC {c : Addr} (Df : DefAt K mg x st ps) (hc : ∀ (f : Addr) (fd : FuncData), mg x = some (.ref f) → L2.Fun K x x st f fd → fd.code = .ref c) (S : FnScope N ps (defScope st)) (len : ∀ ds M k e, sp ds M k e → ds.length = ps.length)
    (hbody : ∀ (f : Addr) (cdv : Value) (A : Around) (outer : List Env) (s : Shared) (H : Hp) (E : XK) (F0 : Hp) (ds : List D) (M : Sto) (kk : DKt) (e : XKD), cdv = .ref c → Room k (A.deeper (envOfC x (defScope st) s.heap.objs.size f cdv)) → A.guards = some [] → sp ds M kk e →
      ∃ t : TSD, PSsD W F0 (cxOf CX0 P w K mg base N x (defScope st) f cdv A outer s H E).nox (defBody st) t ∧ t { nx := fun _ M' => kk .non M', rt := kk } (startD N ds) M) : CalDG P w K mg base W (k + 1) x ps sp := by
  obtain ⟨f, fd, hm, F, b⟩ := Df
  refine ⟨f, fd, hm, F.kp, b, fnG_ofC F S (lsp_len len) fun cdv A outer s H vs Q E hcd hr hg ⟨ds, F0, M, kk, e, r, R, q, g, gx⟩ => ?_⟩
  obtain ⟨t, h1, h2⟩ := hbody f cdv A outer s H E F0 ds M kk e (hcd.trans (hc f fd hm F)) hr hg q
  exact ⟨_, PSs.nox h1, startD N ds, F0, M, _, stt_start r, R, h2, fun δ' M' q' σ' F' H' R' s' => g _ _ q' _ F' H' R' rfl, g, fun _ _ z => z.elim, fun _ _ z => z.elim⟩
end
theorem walk_ofGE {l : PySem.W.OpenLaw} {n k : Nat} {q : Program} {loose : List Str} {XP : (Str → Option Value) → Heap → Prop} {YP : World → Heap → Prop} {d : DefRec} {x : Str}
    (hn : l.most = some n) (hn2 : n ≤ sizeLine) (hdf : d.params.defaults = []) (hr : Room k callerA)
    (F : ∀ (w : World) (mg : Str → Option Value) (fa : Addr) (h : Heap), YP w h → h.Ns mainGlobals mg → mg d.name = some (.ref fa) → ∃ K : PySem.W.Frag, K.In h ∧ LawAtG l w K k n x mg fa h) :
    PySem.W.WalkO q loose XP YP l.row.toRowW d [] (fun f vs => PySem.call f vs) := by
  refine Att.attach_callB hn hdf fun w s0 s1 mg mb fa o pm cd doc a vs ns G Y ho hd hcd hmg hobj hints hlen hbits hg => ?_
  obtain ⟨K, KX, fd, cs, T, sp, hTT, hT, nT, C, hb, hsp, hF⟩ := F w mg fa _ Y G.T.g hmg
  refine law_callG KX G.T.g G.T.b G.T.builtins G.T.nolimit hg hT nT C G.T.bmain hr hobj hints (Nat.le_trans hlen hn2) (hF ⟨K, T, [(a, ns)]⟩ rfl rfl) hb fun H hH hS => ?_
  refine ⟨[.ref a], fun _ => none, fun _ => none, _, _, ⟨_, _, rfl, rfl, rfl⟩, ⟨fun _ _ z => z, (fun _ _ z => by cases z), (fun _ _ z => by cases z), fun p hp => ?_, (fun _ _ z => by cases z), fun p hp => ?_⟩, hsp a ns hlen, fun dd M' z v F' H' R r => ?_, goX0⟩
  · obtain ⟨p', hp', e⟩ := List.mem_map.mp (hTT p hp)
    exact LamX.TabS.nil (by rw [← e]; exact hH p' hp')
  · have e : p = (a, ns) := List.mem_singleton.mp hp
    subst e
    exact hS
  · have z : dd = .bl true := z
    subst z
    exact r
end DL
set_option maxHeartbeats 2000000
namespace DL
open PySem PySem.Spec L2
/-! ### what the head is asked of exception classes and of defs that make lambdas -/
abbrev gA (K : PySem.W.Frag) (x : Str) : Addr := He.ga K x
def excB (K : PySem.W.Frag) (f x : Str) : Bool :=
  PySem.W.excInitIn K (gA K x) bmE "Exception.__new__" && (PySem.W.excOver K (gA K x) bmE && ((PySem.W.clsIn K (gA K x)).any (·.hasDict) && (He.eqO (PySem.W.findIn K (.ref (gA K x)) "__setattr__") (some (some (.builtin "object.__setattr__"))) &&
  (decide (PySem.W.subIn K (.ref (gA K x)) (.type "BaseException") = some true) && (decide (PySem.W.typeIn K (.ref (gA K x)) = some (.type "type")) && (PySem.W.keepIn K (.ref (gA K x)) &&
  (He.eqO (PySem.W.takerIn K (gA K x) f) (some none) && (He.eqO (PySem.W.findIn K (.ref (gA K x)) "__init__") (some (some (.ref (He.ma K (gA K x) "__init__")))) && decide (PySem.W.typeIn K (.ref (He.ma K (gA K x) "__init__")) = some (.type "function"))))))))))
def exdB (K : PySem.W.Frag) (f x : Str) : Bool :=
  (PySem.W.clsIn K (gA K x)).isSome && (He.eqO (PySem.W.findIn K (.ref (gA K x)) "__getattribute__") (some (some (.builtin "BaseException.__getattribute__"))) && (He.eqO (PySem.W.findIn K (.ref (gA K x)) "__getattr__") (some none) &&
  (decide (PySem.W.subIn K (.ref (gA K x)) (.type "BaseException") = some true) && (He.eqO (PySem.W.findIn K (.ref (gA K x)) "__class__") (some (some (.builtin "object.__class__"))) && (He.eqO (PySem.W.specialIn K (.builtin "object.__class__") "__get__") (some (some (.builtin "getset_descriptor.__get__"))) &&
  (decide (PySem.W.takesIn K (.builtin "object.__class__") = some true) && (decide (PySem.W.mroIn K (gA K x) (.type "object") = some true) && (PySem.W.hasDictIn K (gA K x) && He.eqO (PySem.W.findIn K (.ref (gA K x)) f) (some none)))))))))
/-- caught by one of cls; isis, tys: what isinstance tells -/
def tryB (K : PySem.W.Frag) (cls : List Str) (isis : List (Str × Bool)) (tys : List (String × Bool)) (x : Str) : Bool :=
  decide (PySem.W.exmAny K (.ref (gA K x)) (cls.map fun c => .ref (gA K c)) = some true) && (isis.all (fun q => decide (PySem.W.kitOne K (.ref (gA K x)) (.ref (gA K q.1)) = some q.2)) && tys.all (fun q => decide (PySem.W.kitOne K (.ref (gA K x)) (.type q.1) = some q.2)))
/-- the tables of the defs that make lambdas are not one -/
def tabsApart (K : PySem.W.Frag) : List He.Defn → Bool
  | [] => true
  | p :: r => r.all (fun q => decide ((He.cT K p).2 ≠ (He.cT K q).2)) && tabsApart K r
def Txd (K : PySem.W.Frag) (C : Addr) (f : Str) : Prop := ExD K C ∧ PySem.W.findIn K (.ref C) f = some none
section
variable {K : PySem.W.Frag} {f x : Str}
theorem excB_ok (h : excB K f x = true) : OX K (gA K x) ∧ PySem.W.takerIn K (gA K x) f = some none ∧ PySem.W.findIn K (.ref (gA K x)) "__init__" = some (some (.ref (He.ma K (gA K x) "__init__"))) ∧ PySem.W.typeIn K (.ref (He.ma K (gA K x) "__init__")) = some (.type "function") := by
  unfold excB at h
  simp only [Bool.and_eq_true] at h
  obtain ⟨h1, h2, h3, h4, h5, h6, h7, h8, h9, h10⟩ := h
  exact ⟨⟨h1, h2, h3, He.eqO_ok h4, of_decide_eq_true h5, of_decide_eq_true h6, h7⟩, He.eqO_ok h8, He.eqO_ok h9, of_decide_eq_true h10⟩
theorem exdB_ok (h : exdB K f x = true) : Txd K (gA K x) f := by
  unfold exdB at h
  simp only [Bool.and_eq_true] at h
  obtain ⟨h1, h2, h3, h4, h5, h6, h7, h8, h9, h10⟩ := h
  exact ⟨⟨h1, He.eqO_ok h2, He.eqO_ok h3, of_decide_eq_true h4, He.eqO_ok h5, He.eqO_ok h6, of_decide_eq_true h7, of_decide_eq_true h8, h9⟩, He.eqO_ok h10⟩
theorem mkx_of {P : Program} {w : World} {mg : Str → Option Value} {base : Heap} {qual : Str} {st : Stmt} {fd : FuncData} {p1 p2 p3 p4 : Pos} {x1 x2 : Str} (e : excB K f x = true) (hm : mg x = some (.ref (gA K x)))
    (F : L2.Fun K "__init__" qual st (He.ma K (gA K x) "__init__") fd) (S : FnScope [x1, x2] [x1, x2] (defScope st)) (hb : defBody st = [.Assign [.Attribute (.Name x1 p1) f p2] (.Name x2 p3) p4]) (b : Binds K fd [x1, x2] []) (v1 : Vis (defScope st) x1 := by exact Or.inl rfl) (v2 : Vis (defScope st) x2 := by exact Or.inl rfl)
    (d1 : (x1 == ("__debug__" : Str)) = false := by decide) (d2 : (x1 == ("__classdict__" : Str)) = false := by decide) (d3 : (x2 == ("__debug__" : Str)) = false := by decide) (d4 : (x2 == ("__classdict__" : Str)) = false := by decide) :
    MkX P w K mg base 1 x (gA K x) f := by
  obtain ⟨h1, h2, h3, h4⟩ := excB_ok e
  exact ⟨hm, h1, h2, _, fd, [x1, x2], h3, h4, ok_init (k := 0) F S hb v1 v2 d1 d2 d3 d4, b⟩
/-- the code object of a def of the top -/
theorem code_of {st : Stmt} {fd : FuncData} (F : L2.Fun K x x st (gA K x) fd) : fd.code = .ref (He.codeOf K (x, none)) := by
  obtain ⟨oc, od, kV, doc, pm, an, cdv, ct, osl, e, lk, hcd⟩ := F.ex
  obtain ⟨c, hc⟩ := He.codeIn_ref hcd
  have e1 : fd.code = .ref c := by rw [e]; exact hc
  have lk' : K.lookup (He.fAd K (x, none)) = some ⟨oc, od, .func fd, osl⟩ := lk
  rw [e1, He.codeOf_eq lk' e1]
end
theorem tabs_at {K : PySem.W.Frag} : ∀ {l : List He.Defn}, tabsApart K l = true → ∀ p ∈ l, ∀ q ∈ l, (He.cT K p).2 = (He.cT K q).2 → p = q
  | [], _, p, hp, _, _, _ => by cases hp
  | a :: r, h, p, hp, q, hq, e => by
    have h : (r.all (fun q => decide ((He.cT K a).2 ≠ (He.cT K q).2)) && tabsApart K r) = true := h
    rw [Bool.and_eq_true] at h
    rcases List.mem_cons.mp hp with hp1 | hp1
    · rcases List.mem_cons.mp hq with hq1 | hq1
      · rw [hp1, hq1]
      · exact absurd (by rw [← hp1]; exact e) (of_decide_eq_true (List.all_eq_true.mp h.1 q hq1))
    · rcases List.mem_cons.mp hq with hq1 | hq1
      · exact absurd (by rw [← hq1]; exact e.symm) (of_decide_eq_true (List.all_eq_true.mp h.1 p hp1))
      · exact tabs_at h.2 p hp1 q hq1 e
end DL
set_option maxHeartbeats 2000000
namespace DL
open PySem PySem.Spec L2
/-! ### readings of what may give several values -/
section
variable {te ta tb : TED} {t : TAD} {u tl : TSD} {ti : TID} {d : EndD} {δ : Sl} {M : Sto} {i j : Nat}
theorem rd_seqG (G : D → Prop) (h : ∀ k : DKt, (∀ x, G x → k x M) → te δ M k) (hn : ∀ x, G x → u d (δ.set i (some x)) M) : dSeq (dSet i te) u d δ M := h _ hn
theorem rd_setG (G : D → Prop) (h : ∀ k : DKt, (∀ x, G x → k x M) → te δ M k) (hn : ∀ x, G x → d.nx (δ.set i (some x)) M) : dSet i te d δ M := h _ hn
theorem rd_parG (G1 G2 : D → Prop) (h1 : ∀ k : DKt, (∀ x, G1 x → k x M) → ta δ M k) (h2 : ∀ k : DKt, (∀ x, G2 x → k x M) → tb δ M k) (hn : ∀ x y, G1 x → G2 y → u d ((δ.set i (some x)).set j (some y)) M) : dSeq (dPar i j (dCons ta (dCons tb dNil))) u d δ M := h1 _ fun x hx => h2 _ fun y hy => hn x y hx hy
def AllG (G : D → Prop) (n : Nat) (xs : List D) : Prop := xs.length = n ∧ ∀ x ∈ xs, G x
theorem rd_nilU {G : D → Prop} (k : List D → Sto → Prop) (hk : ∀ xs, AllG G 0 xs → k xs M) : dNil δ M k := hk [] ⟨rfl, by simp⟩
theorem rd_consU {G : D → Prop} {n : Nat} (h1 : ∀ k : DKt, (∀ x, G x → k x M) → te δ M k) (h2 : ∀ k : List D → Sto → Prop, (∀ xs, AllG G n xs → k xs M) → t δ M k) (k : List D → Sto → Prop) (hk : ∀ xs, AllG G (n + 1) xs → k xs M) : dCons te t δ M k :=
  h1 _ fun x hx => h2 _ fun xs hxs => hk _ ⟨by rw [List.length_cons, hxs.1], fun y hy => by
    rcases List.mem_cons.mp hy with e | e
    · rw [e]; exact hx
    · exact hxs.2 y e⟩
theorem rd_lstU {G : D → Prop} (n : Nat) (hn : n ≤ 1000) (h : ∀ k : List D → Sto → Prop, (∀ xs, AllG G n xs → k xs M) → t δ M k) (k : DKt) (hk : ∀ xs, AllG G n xs → k (.lst xs) M) : dLst t δ M k := h _ fun xs hx => ⟨by rw [hx.1, sizeLine_eq]; omega, hk xs hx⟩
theorem rd_opG {r : R2D} {x : D} (G : D → Prop) (h1 : ∀ k : DKt, k x M → ta δ M k) (h2 : ∀ k : DKt, (∀ y, G y → k y M) → tb δ M k) {k : DKt} (hr : ∀ y, G y → r x y M k) : dOp r ta tb δ M k := h1 _ (h2 _ hr)
/-- for x in ..: what leaves or goes on, changing nothing -/
theorem for_told {tb : TSD} (st : Option D → Sl) (hset : ∀ y x, (st y).set i (some x) = st (some x)) (G : D → Prop) (body : ∀ x, G x → ∀ d' : EndD, d'.nx (st (some x)) M → tb d' (st (some x)) M) (fin : ∀ y, d.nx (st y) M) : ∀ (ds : List D) (y : Option D), (∀ x ∈ ds, G x) → forD (gNm i) tb ds d (st y) M
  | [], y, _ => fin y
  | x :: ds, y, h => by
    show tb _ ((st y).set i (some x)) M
    rw [hset]
    exact body x (h x List.mem_cons_self) _ (for_told st hset G body fin ds (some x) fun z hz => h z (List.mem_cons_of_mem _ hz))
theorem rd_forT {tb : TSD} (st : Option D → Sl) (y0 : Option D) (hδ : δ = st y0) (hset : ∀ y x, (st y).set i (some x) = st (some x)) (G : D → Prop) (hi : ∀ k : List D → Sto → Prop, (∀ xs : List D, (∀ x ∈ xs, G x) → k xs M) → ti δ M k) (body : ∀ x, G x → ∀ d' : EndD, d'.nx (st (some x)) M → tb d' (st (some x)) M) (fin : ∀ y, d.nx (st y) M) : dFor ti (gNm i) tb d δ M := by
  subst hδ
  exact hi _ fun xs hx => for_told st hset G body fin xs y0 hx
theorem rd_forTs {tb : TSD} (st : Option D → Sl) (y0 : Option D) (hδ : δ = st y0) (hset : ∀ y x, (st y).set i (some x) = st (some x)) (G : D → Prop) (hi : ∀ k : List D → Sto → Prop, (∀ xs : List D, (∀ x ∈ xs, G x) → k xs M) → ti δ M k) (body : ∀ x, G x → ∀ d' : EndD, d'.nx (st (some x)) M → tb d' (st (some x)) M) (fin : ∀ y, u d (st y) M) : dSeq (dFor ti (gNm i) tb) u d δ M := by
  subst hδ
  exact hi _ fun xs hx => for_told st hset G body fin xs y0 hx
theorem rd_itLG {G : List D → Prop} (h : ∀ k : DKt, (∀ xs, G xs → k (.lst xs) M) → te δ M k) (k : List D → Sto → Prop) (hk : ∀ xs, G xs → k xs M) : dItL te δ M k := h _ fun xs hx => hk xs hx
end
end DL
namespace DL
open PySem PySem.Spec L2
theorem tryB_ok {K : PySem.W.Frag} {cls : List Str} {isis : List (Str × Bool)} {tys : List (String × Bool)} {x : Str} (h : tryB K cls isis tys x = true) : PySem.W.exmAny K (.ref (gA K x)) (cls.map fun c => .ref (gA K c)) = some true ∧ (∀ q ∈ isis, PySem.W.kitOne K (.ref (gA K x)) (.ref (gA K q.1)) = some q.2) ∧ ∀ q ∈ tys, PySem.W.kitOne K (.ref (gA K x)) (.type q.1) = some q.2 := by
  unfold tryB at h
  simp only [Bool.and_eq_true] at h
  exact ⟨of_decide_eq_true h.1, fun q hq => of_decide_eq_true (List.all_eq_true.mp h.2.1 q hq), fun q hq => of_decide_eq_true (List.all_eq_true.mp h.2.2 q hq)⟩
end DL
set_option maxHeartbeats 4000000
namespace DL
open PySem PySem.Spec PyProof.Rows L2
section
variable {W : Wd} {F0 : Hp} {X : Cx} {pos : Pos} {a b c e i o : Expr} {es : List Expr} {ta tb tc te td ty tx tv : TED} {t : TAD}
/-! ### == of data of any depth -/
def rEqT : R2D := fun x y M k => okP x = true ∧ okP y = true ∧ SeqAt.shaped (toP x) = true ∧ SeqAt.shaped (toP y) = true ∧ k (.bl (PyData.eqv (toP x) (toP y))) M
def rNeT : R2D := fun x y M k => okP x = true ∧ okP y = true ∧ SeqAt.shaped (toP x) = true ∧ SeqAt.shaped (toP y) = true ∧ k (.bl (!PyData.eqv (toP x) (toP y))) M
theorem od_eqT (hu : X.A.units + 64 < cLine) : OpD W X (compareOp .Eq) rEqT := by
  intro pins s σ H x y v u Q I rx ry ⟨F, M, k, d, e, R, r1, r2, ⟨o1, o2, s1, s2, h⟩, g⟩
  obtain ⟨as, q1, _⟩ := reads_of I R.le d x v o1 r1 rx
  obtain ⟨bs, q2, _⟩ := reads_of I R.le e y u o2 r2 ry
  exact SeqAt.compareEq_shaped q1 q2 s1 s2 hu ⟨.bl _, H, I, rfl, g _ _ h _ F H R rfl⟩
theorem od_neT (hu : X.A.units + 64 < cLine) : OpD W X (compareOp .NotEq) rNeT := by
  intro pins s σ H x y v u Q I rx ry ⟨F, M, k, d, e, R, r1, r2, ⟨o1, o2, s1, s2, h⟩, g⟩
  obtain ⟨as, q1, _⟩ := reads_of I R.le d x v o1 r1 rx
  obtain ⟨bs, q2, _⟩ := reads_of I R.le e y u o2 r2 ry
  exact SeqAt.compareNe_shaped q1 q2 s1 s2 hu ⟨.bl _, H, I, rfl, g _ _ h _ F H R rfl⟩
/-! ### x is None -/
def isNon : D → Bool
  | .non => true
  | _ => false
theorem isNon_v {F : Hp} : ∀ {d : D} {v : V}, Rdd F d v → decide (v = .non) = isNon d
  | .non, _, h => by cases h; rfl
  | .bl _, _, h => by cases h; rfl
  | .int _, _, h => by cases h; rfl
  | .str _, _, h => by cases h; rfl
  | .tup _, _, ⟨_, _, e, _⟩ => by subst e; rfl
  | .lst _, _, ⟨_, _, e, _⟩ => by subst e; rfl
  | .dic _ _, _, ⟨_, _, _, e, _⟩ => by subst e; rfl
  | .ref _, _, h => by cases h; rfl
  | .ty _, _, h => by cases h; rfl
def rIsN (neg : Bool) : R2D := fun x y M k => match y with | .non => k (.bl (if neg then !isNon x else isNon x)) M | _ => False
theorem od_isN : OpD W X (compareOp .Is) (rIsN false) := by
  intro pins s σ H x y v u Q I rx ry ⟨F, M, k, d, e, R, r1, r2, h, g⟩
  unfold rIsN at h
  split at h
  · cases r2
    refine op_isN pins s σ H x _ v u Q I rx ry ⟨rfl, ?_⟩
    rw [isNon_v r1]
    exact g _ _ h _ F H R rfl
  · exact h.elim
theorem od_notN : OpD W X (compareOp .IsNot) (rIsN true) := by
  intro pins s σ H x y v u Q I rx ry ⟨F, M, k, d, e, R, r1, r2, h, g⟩
  unfold rIsN at h
  split at h
  · cases r2
    refine op_notN pins s σ H x _ v u Q I rx ry ⟨rfl, ?_⟩
    rw [isNon_v r1]
    exact g _ _ h _ F H R rfl
  · exact h.elim
/-! ### math.gcd, under a name of the module -/
def rGcdD : RnD := fun ds M k => match ds with | [.int i, .int j] => k (.int ((Nat.gcd i.natAbs j.natAbs : Nat) : Int)) M | _ => False
theorem cd_gcd : CallD W X (.builtin "math.gcd") rGcdD := by
  intro pins s σ H xs us Q I r ⟨F, M, k, ds, R, rs, h, g⟩
  unfold rGcdD at h
  split at h
  · obtain ⟨x, _, e1, r1, y, _, e2, r2, e3⟩ := rs
    subst e3; subst e2; subst e1
    cases r1; cases r2
    exact cr_gcd pins s σ H _ us Q I r ⟨_, _, rfl, g _ _ h _ F H R rfl⟩
  · exact h.elim
theorem pd_callBfun {x : Str} {id : String} {p : Pos} {r : RnD} (hc : CallD W X (.builtin id) r) (hg : Gl X x) (hm : X.mg x = some (.builtin id)) (ha : PAD W F0 X (e :: es) t) (hdb : (x == ("__debug__" : Str)) = false := by decide)
    (he : starEach (e :: es) X.env = (false, eval e X.env) :: starEach es X.env := by rfl) (hpl : (backTo pos (starEach es X.env)).any (·.1) = false := by rfl) : PED W F0 X (.Call (.Name x p) (e :: es) [] pos) (dCB r t) :=
  PE.wk (pe_callBfun hc hg hm ha hdb he hpl) fun σ H Q ⟨δ, F, M, k, hs, R, h, g⟩ => ⟨δ, F, M, _, hs, R, h, fun ds M1 h1 vs F1 H1 R1 r1 =>
    ⟨F1, M1, k, ds, R1.here, r1, h1, fun d3 M3 h3 v3 F3 H3 R3 r3 => g _ _ h3 _ _ _ (R3.rebase R1.base) r3⟩⟩
/-! ### dict(d), list(d), sorted(d) of any size -/
def rDictOf : RnD := fun ds M k => match ds with | [d] => (match dicOf M d with | some kvs => ∀ p, M p = none → k (.ref p) (updM M p (.dic kvs)) | none => False) | _ => False
theorem cd_dict : CallD W X (.type "dict") rDictOf := by
  intro pins s σ H xs us Q I r ⟨F, M, k, ds, R, rs, h, g⟩
  unfold rDictOf at h
  split at h
  · obtain ⟨v, _, rfl, r1, rfl⟩ := rs
    split at h
    · rename_i kvs em
      obtain ⟨a0, xs0, ev, q, t0⟩ := dicOf_at R em r1
      subst ev
      refine call_dictD pins s σ H _ us Q I r ⟨a0, _, rfl, q, fun p np => ?_⟩
      exact g _ _ (h p (R.fresh np).1) _ _ _ (R.newM np ⟨xs0, upd_same, t0⟩) rfl
    · exact h.elim
  · exact h.elim
def rListD0 : RnD := fun ds M k => match ds with | [d] => (match dicOf M d with | some kvs => k (.lst (kvs.map fun kv => keyOfK kv.1)) M | none => False) | _ => False
theorem rds_keys {F : Hp} : ∀ (kvs : List (Key × D)) (xs : List V), kvs.length = xs.length → Rds F (kvs.map fun kv => keyOfK kv.1) ((zipV kvs xs).map fun kv => kV kv.1)
  | [], _, _ => rfl
  | _ :: kvs, [], h => by simp at h
  | (kk, d) :: kvs, x :: xs, h => ⟨_, _, rfl, keyOfK_rdd kk, rds_keys kvs xs (by simpa using h)⟩
theorem cd_listD (hc : X.calm = true) : CallD W X (.type "list") rListD0 := by
  intro pins s σ H xs us Q I r ⟨F, M, k, ds, R, rs, h, g⟩
  unfold rListD0 at h
  split at h
  · obtain ⟨v, _, rfl, r1, rfl⟩ := rs
    split at h
    · rename_i kvs em
      obtain ⟨a0, xs0, ev, q, t0⟩ := dicOf_at R em r1
      subst ev
      refine call_listD hc pins s σ H _ us Q I r ⟨a0, _, rfl, q, fun p np => ?_⟩
      have hl : kvs.length = xs0.length := by have := t0.length; simpa using this
      exact g _ _ h _ _ _ (R.newF np) ⟨p, _, rfl, upd_same, rds_keys kvs xs0 hl⟩
    · exact h.elim
  · exact h.elim
/-! ### list(range(..)) -/
def rgD (a c : Int) (n : Nat) : List D := (List.range n).map fun (i : Nat) => D.int (a + (i : Int) * c)
theorem rds_vals {F : Hp} (f : Nat → Int) : ∀ l : List Nat, Rds F (l.map fun i => D.int (f i)) (l.map fun i => V.int (f i))
  | [] => rfl
  | _ :: l => ⟨_, _, rfl, rfl, rds_vals f l⟩
theorem vals_rgC {a c : Int} {n : Nat} {acc : Array Value} (h : ItemsOf (fun i v => ∃ t, v = .int (a + i * c) t) acc n) : Vals ((List.range n).map fun (i : Nat) => V.int (a + (i : Int) * c)) acc.toList := by
  have e : acc.toList.length = n := by rw [Array.length_toList]; exact h.1
  rw [← e]
  refine vals_of_get acc.toList _ fun j u hj => ?_
  obtain ⟨t, rfl⟩ := h.2 j u (by rw [← hj, Array.getElem?_toList])
  exact ⟨t, rfl⟩
def dLstRg2 (t : TAD) : TED := fun δ M k => t δ M fun ds M1 => match ds with | [.int i, .int j] => RgOk i j ∧ k (.lst (rgD i 1 (j - i).toNat)) M1 | _ => False
def dLstRg3 (t : TAD) : TED := fun δ M k => t δ M fun ds M1 => match ds with | [.int i, .int j, .int (-1)] => RgOk j i ∧ k (.lst (rgD i (-1) (i - j).toNat)) M1 | _ => False
end
end DL
set_option maxHeartbeats 4000000
namespace DL
open PySem PySem.Spec PyProof.Rows L2
section
variable {W : Wd} {F0 : Hp} {X : Cx} {pos : Pos} {a b c e i o : Expr} {es : List Expr} {ta tb tc te td ty tx tv : TED} {t : TAD}
/-! ### list(range(..)), also with a step -/
def PRgC (X : Cx) (e : Expr) (t : L2.St → Hp → (Int → Int → Nat → Hp → Prop) → Prop) : Prop :=
  ∀ (pins : List (Addr × Obj)) (s : Shared) (σ : L2.St) (H : Hp) (Q : Int → Int → Nat → Hp → Prop), Inv X pins σ H s → t σ H Q →
    wpAny (model X.prog X.w) X.A (eval e X.env) (fun x s' => ∃ (r : Addr) (a b c : Int) (n : Nat) (t u v : Tok) (H' : Hp), x = .ref r ∧ IsRange s'.heap r a b c t u v ∧ Builtin.Range.small a b c = true ∧ Builtin.Range.rangeSize a b c = (n : Int) ∧ Inv X pins σ H' s' ∧ Q a c n H') X.xe s
theorem prgC_3 {p pos : Pos} {ta : TA} (hg : Gl X "range") (hm : X.mg "range" = none) (ha : PA X [a, b, c] ta)
    (hs : starEach [a, b, c] X.env = (false, eval a X.env) :: starEach [b, c] X.env := by rfl) (hpl : (backTo pos (starEach [b, c] X.env)).any (·.1) = false := by rfl) :
    PRgC X (.Call (.Name "range" p) [a, b, c] [] pos) (fun σ H Q => ta σ H fun vs H1 => ∃ (i j c : Int) (n : Nat), vs = [.int i, .int j, .int c] ∧ RgC i j c n ∧ Q i c n H1) := by
  intro pins s σ H Q I h
  refine Call_ (ld_blt I hg hm boot_range (PyProof.Rows.callWith_type1 (thn (ha.run pos pins s σ H _ I h) fun us s1 ⟨vs, H1, I1, r1, q1⟩ => ?_) hs hpl))
  obtain ⟨i, j, k, n, e, ⟨c0, c1, c2, c3⟩, q⟩ := q1
  subst e
  cases r1 with
  | cons r rr =>
    cases rr with
    | cons r' rr =>
      cases rr with
      | cons r'' rr =>
        cases rr
        obtain ⟨t, rfl⟩ := r
        obtain ⟨t', rfl⟩ := r'
        obtain ⟨t'', rfl⟩ := r''
        refine call_range_3 c0 ?_ (.inl (PyProof.noPylong_small c1))
        exact ⟨_, i, j, k, n, _, _, _, H1, rfl, IsRange.new _ _ _ _ _ _ _, c2, c3, I1.kept (t' := s1.toks) fun b o e => Heap.get?_push_of_some _ e, q⟩
theorem prgC_2 {p pos : Pos} {ta : TA} (hg : Gl X "range") (hm : X.mg "range" = none) (ha : PA X [a, b] ta)
    (hs : starEach [a, b] X.env = (false, eval a X.env) :: starEach [b] X.env := by rfl) (hpl : (backTo pos (starEach [b] X.env)).any (·.1) = false := by rfl) :
    PRgC X (.Call (.Name "range" p) [a, b] [] pos) (fun σ H Q => ta σ H fun vs H1 => ∃ (i j : Int), vs = [.int i, .int j] ∧ RgOk i j ∧ Q i 1 (j - i).toNat H1) := by
  intro pins s σ H Q I h
  refine Call_ (ld_blt I hg hm boot_range (PyProof.Rows.callWith_type1 (thn (ha.run pos pins s σ H _ I h) fun us s1 ⟨vs, H1, I1, r1, q1⟩ => ?_) hs hpl))
  obtain ⟨i, j, e, ⟨b1, b2, b3, b4, b5⟩, q⟩ := q1
  subst e
  cases r1 with
  | cons r rr =>
    cases rr with
    | cons r' rr =>
      cases rr
      obtain ⟨t, rfl⟩ := r
      obtain ⟨t', rfl⟩ := r'
      exact call_range_2 ⟨_, i, j, 1, (j - i).toNat, _, _, _, H1, rfl, IsRange.new _ _ _ _ _ _ _, small_one b1 b2 b3 b4, rangeSize_nat i j, I1.kept fun b u e => Heap.get?_push_of_some _ e, q⟩
theorem pe_listRgC {te : L2.St → Hp → (Int → Int → Nat → Hp → Prop) → Prop} {p pos : Pos} (hc : X.calm = true) (hg : Gl X "list") (hm : X.mg "list" = none) (he : PRgC X e te) (na : starEach [e] X.env = (false, eval e X.env) :: starEach [] X.env := by rfl) :
    PE X (.Call (.Name "list" p) [e] [] pos) (fun σ H Q => te σ H fun a c n H1 => n ≤ 2 ^ 24 ∧ ∀ q, H1 q = none → Q (.ref q) (upd H1 q (.lst ((List.range n).map fun (i : Nat) => V.int (a + (i : Int) * c))))) := by
  refine ⟨fun pins s σ H Q I h => ?_⟩
  refine Call_ (ld_blt I hg hm boot_list (PyProof.Rows.callWith_type1 (args_cons (thn (he pins s σ H _ I h) fun x s1 ⟨r, a, b, c, n, t, u, v, H1, ex, hr, h1, h2, I1, ok, q⟩ => args_nil ?_) na) na))
  subst ex
  refine call_list_range (n := n) (I1.ok.hd hc) hr h1 h2 ok fun h' tk acc c' hk e' hi => ?_
  refine ⟨.ref s1.heap.objs.size, upd H1 s1.heap.objs.size (.lst ((List.range n).map fun (i : Nat) => V.int (a + (i : Int) * c))), I1.laid hk (Nat.le_refl _) (show ObjOk X.prog X.w _ _ _ (.lst _) from ⟨?_, acc.toList, c', vals_rgC hi, ?_⟩), rfl, q _ (I1.hok.fresh (Nat.le_refl _))⟩
  · rw [List.length_map, List.length_range, sizeLine_eq]; omega
  · rw [Array.toArray_toList]; exact e'
theorem pd_listRg2 {p p2 pos2 : Pos} (hc : X.calm = true) (hm : X.mg "list" = none) (hm2 : X.mg "range" = none) (ha : PAD W F0 X [a, b] t) (hg : Gl X "list" := by rfl) (hg2 : Gl X "range" := by rfl)
    (hs : starEach [a, b] X.env = (false, eval a X.env) :: starEach [b] X.env := by rfl) (hpl : (backTo pos2 (starEach [b] X.env)).any (·.1) = false := by rfl) (na : starEach [.Call (.Name "range" p2) [a, b] [] pos2] X.env = (false, eval (.Call (.Name "range" p2) [a, b] [] pos2) X.env) :: starEach [] X.env := by rfl) :
    PED W F0 X (.Call (.Name "list" p) [.Call (.Name "range" p2) [a, b] [] pos2] [] pos) (dLstRg2 t) :=
  PE.wk (pe_listRgC hc hg hm (prgC_2 hg2 hm2 ha hs hpl) na) fun σ H Q ⟨δ, F, M, k, hst, R, h, g⟩ => ⟨δ, F, M, _, hst, R, h, fun ds M1 h1 vs F1 H1 R1 r1 => by
    split at h1
    · rename_i i j
      obtain ⟨x, _, e1, r1, y, _, e2, r2, e3⟩ := r1
      subst e3; subst e2; subst e1
      cases r1; cases r2
      refine ⟨i, j, rfl, h1.1, h1.1.2.2.2.2, fun q nq => ?_⟩
      exact g _ _ h1.2 _ _ _ (R1.newF nq) ⟨q, _, rfl, upd_same, rds_vals (fun m => i + (m : Int) * 1) _⟩
    · exact h1.elim⟩
theorem pd_listRg3 {p p2 pos2 : Pos} (hc : X.calm = true) (hm : X.mg "list" = none) (hm2 : X.mg "range" = none) (ha : PAD W F0 X [a, b, c] t) (hg : Gl X "list" := by rfl) (hg2 : Gl X "range" := by rfl)
    (hs : starEach [a, b, c] X.env = (false, eval a X.env) :: starEach [b, c] X.env := by rfl) (hpl : (backTo pos2 (starEach [b, c] X.env)).any (·.1) = false := by rfl) (na : starEach [.Call (.Name "range" p2) [a, b, c] [] pos2] X.env = (false, eval (.Call (.Name "range" p2) [a, b, c] [] pos2) X.env) :: starEach [] X.env := by rfl) :
    PED W F0 X (.Call (.Name "list" p) [.Call (.Name "range" p2) [a, b, c] [] pos2] [] pos) (dLstRg3 t) :=
  PE.wk (pe_listRgC hc hg hm (prgC_3 hg2 hm2 ha hs hpl) na) fun σ H Q ⟨δ, F, M, k, hst, R, h, g⟩ => ⟨δ, F, M, _, hst, R, h, fun ds M1 h1 vs F1 H1 R1 r1 => by
    split at h1
    · rename_i i j
      obtain ⟨x, _, e1, r1, y, _, e2, r2, z, _, e3, r3, e4⟩ := r1
      subst e4; subst e3; subst e2; subst e1
      cases r1; cases r2; cases r3
      obtain ⟨⟨b1, b2, b3, b4, b5⟩, h2⟩ := h1
      refine ⟨i, j, -1, (i - j).toNat, rfl, RgC.neg b3 b4 b1 b2, b5, fun q nq => ?_⟩
      exact g _ _ h2 _ _ _ (R1.newF nq) ⟨q, _, rfl, upd_same, rds_vals (fun m => i + (m : Int) * (-1)) _⟩
    · exact h1.elim⟩
/-! ### sorted(d), any size -/
theorem call_sortedDA (hcalm : X.calm = true) : CallR X (.builtin "sorted") (fun xs H Q => ∃ (a : Addr) (kvs : List (Key × V)) (ks : List Int), xs = [.ref a] ∧ Rd H a (.dK kvs) ∧ kvs.map (·.1) = ks.map Sum.inl ∧ ks.length ≤ sizeLine ∧
    ∀ (ys : List Int) (p : Addr), ys.Perm ks → ys.Pairwise (· ≤ ·) → H p = none → Q (.ref p) (upd H p (.lst (ys.map V.int)))) := by
  intro pins s σ H xs us Q I r q
  obtain ⟨a, kvs, ks, ex, hd, hks, h64, q⟩ := q
  subst ex
  obtain ⟨u, eu, rx⟩ := vals1 r
  subst eu
  cases rx
  obtain ⟨z, lo, vs, rel, dd⟩ := dk_rd I.hok hd
  obtain ⟨ep, hat⟩ := dd.dictAt
  have hkeys : vs.map (·.1) = ks.map Sum.inl := rel.keys.symm.trans hks
  have hl : vs.length = ks.length := by
    have e := congrArg List.length hkeys
    rw [List.length_map, List.length_map] at e
    exact e
  have h16 : vs.length ≤ sizeLine := by rw [hl]; exact h64
  refine Calls.call_function_entry PyProof.Rows.kind_sorted PyProof.Rows.plain_sorted PyProof.Rows.entry_sorted (PyProof.Rows.args_sorted1 _) ?_
  unfold Builtin.«sorted»
  refine wpAny_bind (m := checkCount "sorted" 1 1 _) (wpAny_pure ?_)
  refine wpAny_bind (PySem.W.kdu_collect (A := X.A.in1) (PySem.W.kdl_dict (knd := mixKind X.prog X.w) (kvs := vs) (ep := ep) lo) (I.ok.hd hcalm) hat h16 fun h' tk acc hk hacc => ?_)
  have hal : acc.toList.length = ks.length := by rw [Array.length_toList, hacc.1, hl]
  have hS : IntsAre acc.toList ks := ints_each hal fun j v e => by
    obtain ⟨k, x, e1, e2⟩ := hacc.2 j v (by rw [← Array.getElem?_toList]; exact e)
    have e3 : (vs.map (·.1))[j]? = some k := by rw [List.getElem?_map, e1]; rfl
    rw [hkeys, List.getElem?_map] at e3
    cases e4 : ks[j]? with
    | none => rw [e4] at e3; cases e3
    | some y =>
      rw [e4] at e3
      have e5 : Sum.inl y = k := Option.some.inj e3
      subst e5
      rcases keyIs_shape (show keyIs (Sum.inl y) v = true from e2) with ⟨i, t, ek, ev⟩ | ⟨z, t, ek, ev⟩
      · cases ek
        exact ⟨y, t, rfl, ev⟩
      · cases ek
  have I1 : Inv X pins σ H { s with heap := h', toks := tk } := I.kept hk
  refine wpAny_bind (wpAny_newList ?_ (by rw [hal]; exact h64))
  have hoL : (h'.push (seqObj "list" acc.toList.toArray 0)).get? h'.objs.size = some (seqObj "list" acc.toList.toArray 0) := Heap.get?_push_size _ rfl
  show wpAny _ _ _ _ _ { s with heap := h'.push (seqObj "list" acc.toList.toArray 0), toks := tk }
  refine wpAny_bind (wpAny_holding (wpAny_call_entry PyProof.Rows.slot_list_sort ⟨_, hoL, rfl⟩ PyProof.Rows.entry_list_sort
    (SrtO.list_sort_ord SrtO.swo_int (s := { s with heap := h'.push (seqObj "list" acc.toList.toArray 0), toks := tk }) hoL (by rw [hal]; exact h64) (fun h2 => SrtO.ints_sortable hS h2) fun out h1 h2 => ⟨_, rfl, ?_⟩) (PyProof.Rows.args_list_sort _)))
  obtain ⟨g1, g2, g3⟩ := SrtO.ints_out hS h1 h2
  obtain ⟨e', he'⟩ := PyProof.Rows.sortedHeap_at (vs := acc.toList) (out := out.toArray) hoL
  have hlen : ((out.map SrtO.iv).map V.int).length ≤ sizeLine := by
    rw [List.length_map, g2.length_eq]
    exact h64
  refine wpAny_pure ⟨_, rfl, .ref h'.objs.size, upd H h'.objs.size (.lst ((out.map SrtO.iv).map V.int)), I1.laid (t' := tk) (fun b u e => ?_) (Nat.le_refl _)
    (show ObjOk X.prog X.w _ _ _ (.lst _) from ⟨hlen, out, e', vals_of_ints g1, he'⟩), rfl, q _ _ g2 g3 (I1.hok.fresh (Nat.le_refl _))⟩
  have hb : b < h'.objs.size := Heap.lt_size e
  rw [PyProof.Rows.sortedHeap_old (Nat.ne_of_lt hb) (by rw [size_push']; exact Nat.lt_succ_of_lt hb)]
  exact Heap.get?_push_of_some _ e
def rSortedA : RnD := fun ds M k => match ds with
  | [d] => (match dicOf M d with
    | some kvs => (match intKeys (kvs.map (·.1)) with | some bs => bs.length ≤ sizeLine ∧ ∀ ns : List Int, ns.Perm bs → ns.Pairwise (· ≤ ·) → k (.lst (ns.map D.int)) M | none => False)
    | none => False)
  | _ => False
theorem cd_sortedA (hc : X.calm = true) : CallD W X (.builtin "sorted") rSortedA := by
  intro pins s σ H xs us Q I r ⟨F, M, k, ds, R, rs, h, g⟩
  unfold rSortedA at h
  split at h
  · obtain ⟨v, _, rfl, r1, rfl⟩ := rs
    split at h
    · rename_i kvs em
      split at h
      · rename_i bs eb
        obtain ⟨a0, xs0, ev, q, t0⟩ := dicOf_at R em r1
        subst ev
        refine call_sortedDA hc pins s σ H _ us Q I r ⟨a0, _, bs, rfl, q, by rw [show (zipV kvs xs0).map (·.1) = kvs.map (·.1) from rds_zip rfl t0]; exact intKeys_eq eb, h.1, fun ns p h1 h2 np => ?_⟩
        exact g _ _ (h.2 ns h1 h2) _ _ _ (R.newF np) ⟨p, _, rfl, upd_same, Rds.ints ns⟩
      · exact h.elim
    · exact h.elim
  · exact h.elim
/-! ### xs.extend(ys), xs[i] = v -/
def extK (k : DKt) (x y : D) (M2 : Sto) : Prop := match x, lstOf M2 y with
  | .ref a, some ys => (match M2 a with | some (.lst ds) => ds.length + ys.length ≤ sizeLine ∧ k .non (updM M2 a (.lst (ds ++ ys))) | _ => False)
  | _, _ => False
def dExtend (to te : TED) : TED := fun δ M k => to δ M fun x M1 => (lstOf M1 x).isSome = true ∧ te δ M1 fun y M2 => extK k x y M2
theorem pd_extend {apos cpos : Pos} (ho : PED W F0 X o td) (he : PED W F0 X e te) (hbase : attributeBase o "extend" X.env (eval o X.env) = eval o X.env := by rfl)
    (hfew : ((backTo cpos (starEach (e :: []) X.env)).all (fun x => !x.1) && (backToKw cpos (keywordEach [] X.env)).all (fun x => x.1.isSome)
      && decide ((e :: []).length + ([] : List Keyword).length + (if ([] : List Keyword).isEmpty then 0 else 1) < 30)) = true := by rfl)
    (hline : (apos.endLine == cpos.line) = true := by rfl) (hs : starEach (e :: []) X.env = (false, eval e X.env) :: starEach [] X.env := by rfl) (hplain : (backTo cpos (starEach [] X.env)).any (·.1) = false := by rfl) :
    PED W F0 X (.Call (.Attribute o "extend" apos) [e] [] cpos) (dExtend td te) :=
  PE.wk (pe_bm PySem.F.plainAttrs_list PySem.F.slot_list_extend PySem.F.type_list_extend mt_extend ho (pda_cons he pda_nil hs) hbase hfew hline hs hplain) fun σ H Q ⟨δ, F, M, k, hst, R, h, g⟩ => ⟨δ, F, M, _, hst, R, h, fun x M1 ⟨hx, h1⟩ v F1 H1 R1 r1 => by
    obtain ⟨ds0, es⟩ := Option.isSome_iff_exists.mp hx
    obtain ⟨a0, xs0, ev, t0, q0⟩ := lstOf_at R1 es r1
    subst ev
    refine ⟨.inl ⟨rfl, _, SqL.of q0⟩, δ, F1, M1, oneK (extK k x), hst.le R1.base, R1.rebase R.base, h1, fun ds M2 h2 vs F2 H2 R2 r2 => ?_⟩
    unfold oneK at h2
    split at h2
    · rename_i y
      obtain ⟨yv, _, rfl, ry, rfl⟩ := r2
      have r1' := r1
      cases x with
      | ref a =>
        cases r1'
        cases ey : lstOf M2 y with
        | none => unfold extK at h2; simp only [ey] at h2
        | some ys =>
          unfold extK at h2
          simp only [ey] at h2
          split at h2
          · rename_i ds em
            obtain ⟨xs, q, t⟩ := (R2.mo a0 _ em).2
            obtain ⟨b0, zs, eb, tz, qz⟩ := lstOf_at R2 ey ry
            refine ⟨a0, b0, xs, zs, rfl, by rw [eb], q, qz, by rw [← t.length, ← tz.length]; exact h2.1, ?_⟩
            have Rw := (R2.rebase R1.base).write (m' := .lst (ds ++ ys)) (o := .lst (xs ++ zs)) em (fun _ z => by cases z) (fun _ z => by cases z) (by rw [q]; trivial) ⟨_, upd_same, t.append tz⟩
            exact g _ _ h2.2 _ _ _ Rw rfl
          · exact h2.elim
      | _ => exact (show False from h2).elim
    · exact h2.elim⟩
def gIx (td ty : TED) : TGD := fun v δ M k => td δ M fun x M1 => ty δ M1 fun y M2 => match x, y with
  | .ref a, .int j => (match M2 a with | some (.lst ds) => (match ixN ds.length j with | some n => k δ (updM M2 a (.lst (ds.set n v))) | none => False) | _ => False)
  | _, _ => False
theorem pgd_ix (ho : PED W F0 X o td) (hi : PED W F0 X i ty)
    (hs : ∀ v, assign (.Subscript o i pos) X.env v = (do
      let ov ← holding [v] (eval o X.env)
      let iv ← holding [v, ov] (eval i X.env)
      standAt pos
      holding [v, ov, iv] (setItem ov iv v)
      release [v, ov, iv] []) := by intro _; rfl) : PGD W F0 X (.Subscript o i pos) (gIx td ty) :=
  PG.wk (pg_sub ho hi set_list hs) fun v σ H Q ⟨d, δ, F, M, k, rd, hst, R, h, g⟩ => ⟨δ, F, M, _, hst, R, h, fun x M1 h1 ov F1 H1 R1 r1 => ⟨δ, F1, M1, _, hst.le R1.base, R1.rebase R.base, h1, fun y M2 h2 iv F2 H2 R2 r2 => by
    split at h2
    · rename_i a j
      cases r1; cases r2
      split at h2
      · rename_i ds em
        split at h2
        · rename_i n en
          obtain ⟨xs, q, t⟩ := (R2.mo a _ em).2
          refine ⟨a, xs, j, n, rfl, rfl, q, by rw [← t.length]; exact en, ?_⟩
          have le2 : Le F F2 := R1.base.trans R2.base
          have Rw := (R2.rebase R1.base).write (m' := .lst (ds.set n d)) (o := .lst (xs.set n v)) em (fun _ z => by cases z) (fun _ z => by cases z) (by rw [q]; trivial) ⟨_, upd_same, Rds.set (rd.le le2) n t⟩
          exact g _ _ h2 σ _ _ Rw (hst.le le2)
        · exact h2.elim
      · exact h2.elim
    · exact h2.elim⟩⟩
end
end DL
set_option maxHeartbeats 2000000
namespace DL
open PySem PySem.Spec L2
/-! ### repr of data with lists and dicts: sys.modules is a dict -/
def sysB (K : PySem.W.Frag) : Bool := match K.lookup sysModules with
  | some o => decide (o.cls = .type "dict")
  | none => false
section
variable {X : Cx} {pins : List (Addr × Obj)} {σ : L2.St} {H F : Hp} {s : Shared}
theorem sysB_ne (I : Inv X pins σ H s) (hs : sysB X.K = true) {a : Addr} {o : Obj} (ho : s.heap.get? a = some o) (hc : o.cls = .type "list") : sysModules ≠ a := by
  intro e
  unfold sysB at hs
  split at hs
  · rename_i o2 h2
    have h3 := I.kIn _ _ h2
    rw [e, ho] at h3
    cases h3
    have := of_decide_eq_true hs
    rw [hc] at this
    injection this with z
    exact absurd z (by decide)
  · cases hs
mutual
theorem readsS (I : Inv X pins σ H s) (hS : sysB X.K = true) (le : Le F H) : ∀ (d : D) (v : V) (u : Value), okP d = true → Rdd F d v → RelV v u → ∃ as, Reads s.heap u (toP d) as ∧ sysModules ∉ as
  | .non, _, _, _, h, r => by cases h; cases r; exact ⟨_, Reads.none, by simp⟩
  | .bl b, _, _, _, h, r => by cases h; cases r; exact ⟨_, Reads.bool b, by simp⟩
  | .int i, _, _, _, h, r => by cases h; obtain ⟨t, rfl⟩ := r; exact ⟨_, Reads.int i t, by simp⟩
  | .str x, _, _, _, h, r => by cases h; obtain ⟨t, rfl⟩ := r; exact ⟨_, Reads.str x t, by simp⟩
  | .tup ds, _, _, ok, ⟨a, xs, e, q, t⟩, r => by
    subst e; cases r
    obtain ⟨its, rv, ⟨o, ho, hc, n, hd⟩, _⟩ := I.tuple (SqT.of (le _ _ q))
    obtain ⟨as, hr, hn⟩ := readsSA I hS le ds xs its ok t rv
    exact ⟨_, Reads.tuple ho hc hd hr, hn⟩
  | .lst ds, _, _, ok, ⟨a, xs, e, q, t⟩, r => by
    subst e; cases r
    obtain ⟨its, rv, ⟨o, n, ho, hc, _, hd⟩, _⟩ := I.list (SqL.of (le _ _ q))
    obtain ⟨as, hr, hn⟩ := readsSA I hS le ds xs its ok t rv
    refine ⟨_, Reads.list ho hc hd hr, ?_⟩
    rw [List.mem_cons, not_or]
    exact ⟨sysB_ne I hS ho hc, hn⟩
  | .dic ks ds, _, _, ok, ⟨a, xs, ob, e, q, hl, t⟩, r => by
    subst e; cases r
    have ok' : (ks.length == ds.length && okPs ds) = true := ok
    rw [Bool.and_eq_true] at ok'
    obtain ⟨hz, hsm, vs, rel, o, es, ep, ho, hex, hd, hk, hp, hnd⟩ := dk_rd I.hok (.inr ⟨ob, le _ _ q⟩)
    obtain ⟨e1, e2⟩ := kv_keys rel
    rw [List.map_snd_zip (by omega)] at e2
    rw [List.map_fst_zip (by omega)] at e1
    obtain ⟨as, hr, hn⟩ := readsSA I hS le ds xs (vs.map (·.2)) ok'.2 t e2
    have h1 := keys_read (h := s.heap) hp
    rw [e1] at h1
    have l1 : (ks.map keyP).length = (toPs ds).length := by rw [List.length_map, toPs_length, t.length, hl]
    refine ⟨_, Reads.dict ho hex.1 hd (as := []) (bs := as) ?_ ?_, ?_⟩
    · rw [List.map_fst_zip (by omega)]; exact h1
    · rw [List.map_snd_zip (by omega), vals_eq hp]; exact hr
    · simp only [List.append_nil, List.cons_append, List.mem_cons, not_or, List.nil_append]
      exact ⟨fun e => by rw [e] at hsm; simp at hsm, hn⟩
  | .ref _, _, _, ok, _, _ => by cases ok
  | .ty _, _, _, ok, _, _ => by cases ok
theorem readsSA (I : Inv X pins σ H s) (hS : sysB X.K = true) (le : Le F H) : ∀ (ds : List D) (vs : List V) (us : List Value), okPs ds = true → Rds F ds vs → Vals vs us → ∃ as, ReadsAll s.heap us (toPs ds) as ∧ sysModules ∉ as
  | [], _, _, _, h, r => by cases h; cases r; exact ⟨_, ReadsAll.nil, by simp⟩
  | d :: ds, _, _, ok, ⟨x, rr, e, q, t⟩, r => by
    subst e
    have ok' : (okP d && okPs ds) = true := ok
    rw [Bool.and_eq_true] at ok'
    cases r with
    | cons r1 r2 =>
      obtain ⟨as, q1, n1⟩ := readsS I hS le d _ _ ok'.1 q r1
      obtain ⟨bs, q2, n2⟩ := readsSA I hS le ds _ _ ok'.2 t r2
      refine ⟨_, ReadsAll.cons q1 q2, ?_⟩
      simp only [List.mem_append, not_or]
      exact ⟨n1, n2⟩
end
end
structure RpOkS (d : D) : Prop where
  ok : okP d = true
  sh : (toP d).showable = true
  sz : (shown d).length ≤ sizeLine
  dp : (toP d).depth ≤ 50
theorem RpOk.s {d : D} (h : RpOk d) : RpOkS d := ⟨h.ok, h.sh, h.sz, h.dp⟩
def rReprS : RnD := fun ds M k => match ds with
  | [d] => RpOkS d ∧ k (.str (shown d)) M
  | _ => False
section
variable {W : Wd} {X : Cx}
theorem cd_reprS (hS : sysB X.K = true) (hg : X.A.guards = some []) (hu : X.A.units + 64 < cLine) : CallD W X (.builtin "repr") rReprS := by
  intro pins s σ H xs us Q I r ⟨F, M, k, ds, R, rs, h, g⟩
  unfold rReprS at h
  split at h
  · rename_i d
    obtain ⟨v, _, rfl, r1, rfl⟩ := rs
    obtain ⟨u, rfl, rx⟩ := vals1 r
    obtain ⟨⟨ok, sh, sz, dp⟩, h⟩ := h
    obtain ⟨as, hr, hn⟩ := readsS I hS R.le d v u ok r1 rx
    have fin : ∀ h' u' tk, (∀ b o, s.heap.get? b = some o → h'.get? b = some o) → EP X pins σ Q (.str (shown d) u') { s with heap := h', toks := tk } := fun h' u' tk hk =>
      ⟨.str (shown d), H, I.kept hk, ⟨u', rfl⟩, g _ _ h _ F H R rfl⟩
    cases d with
    | non => cases r1; cases rx; exact PySem.P.repr_of_none (fin s.heap _ _ fun _ _ e => e)
    | bl b => cases r1; cases rx; exact PySem.P.repr_of_bool (fin s.heap _ _ fun _ _ e => e)
    | int i =>
      cases r1; obtain ⟨t, rfl⟩ := rx
      have sh' : i.natAbs.log2 < 1920 := by simpa [toP, PyData.showable] using sh
      exact PySem.P.repr_of_int sh' (fin s.heap _ _ fun _ _ e => e)
    | str x => cases r1; obtain ⟨t, rfl⟩ := rx; exact PySem.P.repr_of_str (fin s.heap _ _ fun _ _ e => e) sz
    | tup ds =>
      obtain ⟨a, xs, rfl, _, _⟩ := r1
      cases rx
      exact repr_of_reads' hr sh (fun _ => hn) hg (by omega) (fun _ _ e => e) fin sz
    | lst ds =>
      obtain ⟨a, xs, rfl, _, _⟩ := r1
      cases rx
      exact repr_of_reads' hr sh (fun _ => hn) hg (by omega) (fun _ _ e => e) fin sz
    | dic ks ds =>
      obtain ⟨a, xs, _, rfl, _, _⟩ := r1
      cases rx
      exact repr_of_reads' hr sh (fun _ => hn) hg (by omega) (fun _ _ e => e) fin sz
    | ref _ => cases ok
    | ty _ => cases ok
  · exact h.elim
end
end DL
set_option maxHeartbeats 2000000
namespace DL
open PySem PySem.Spec L2
/-! ### a hook that keeps sys.modules in the fragment too -/
def asS (g : Addr → Option Obj) (n : Nat) : List Addr := sysModules :: He.asD g n
def obsS (n : Nat) (fa : List He.Fa) (fn : List He.DefD) (tf : List He.Defn) (ex : PySem.W.Frag → Bool) (g : Addr → Option Obj) : He.AlX := (He.obsT fa fn [] (He.frT g (asS g n)), ex (He.frT g (asS g n)) && He.tabsB g tf (He.frT g (asS g n)))
theorem saysS_of {n : Nat} {fa : List He.Fa} {fn : List He.DefD} {tf : List He.Defn} {ex : PySem.W.Frag → Bool} {w : World} {h : Heap} (e : obsS n fa fn tf ex h.get? = He.valX fn [] w) : He.SaysX fa fn [] tf ex w h (He.frT h.get? (asS h.get? n)) := by
  have e1 := congrArg (fun z : He.AlX => z.1) e
  have e2 := congrArg (fun z : He.AlX => z.2) e
  unfold obsS He.valX at e1 e2
  dsimp only at e1 e2
  rw [Bool.and_eq_true] at e2
  have key := List.all_eq_true.mp (show (tf.all fun p => _) = true from e2.2)
  have tab : ∀ p ∈ tf, ∃ o, h.get? (He.cT (He.frT h.get? (asS h.get? n)) p).2 = some o ∧ He.emptyTab o = true := by
    intro p hp
    have h4 := (Bool.and_eq_true_iff.mp (key p hp)).2
    split at h4
    · rename_i o q; exact ⟨o, q, h4⟩
    · cases h4
  refine ⟨e1, e2.1, fun p hp => (Bool.and_eq_true_iff.mp (key p hp)).1, fun p hp => ?_, fun p hp => ?_⟩
  · obtain ⟨o, q, z⟩ := tab p hp
    exact He.frT_none q z
  · obtain ⟨o, q, z⟩ := tab p hp
    rw [q, He.emptyTab_eq z]
def hookS (n : Nat) (fa : List He.Fa) (fn : List He.DefD) (tf : List He.Defn) (ex : PySem.W.Frag → Bool) : PySem.W.Hook where
  α := He.AlX
  obs := fun s => obsS n fa fn tf ex s.heap.get?
  val := fun w => He.valX fn [] w
  says := fun w h => ∃ K : PySem.W.Frag, K.In h ∧ He.SaysX fa fn [] tf ex w h K
  of := fun _ _ e => ⟨_, He.frT_in, saysS_of e⟩
  keeps := fun _ _ _ ⟨K, hK, c⟩ k => ⟨K, PySem.W.Frag.In.keeps hK k, ⟨c.t, c.more, c.hd, c.out, fun p hp => k _ _ (c.empty p hp)⟩⟩
theorem obsS_eq {n : Nat} {fa : List He.Fa} {fn : List He.DefD} {tf : List He.Defn} {ex : PySem.W.Frag → Bool} {g : Addr → Option Obj} {s : Shared} (h : ∀ a, g a = s.heap.get? a) : obsS n fa fn tf ex g = (hookS n fa fn tf ex).obs s := by
  have e : g = s.heap.get? := funext h
  subst e
  rfl
end DL
set_option maxHeartbeats 0
namespace Kx
open PySem PySem.Spec L2 DL
def top (i : Nat) : Stmt := PySem.Challenge.pw_stileturns_k83_parts_of_lamp_rows.main.body.getD i (.Pass ⟨0, 0, 0, 0⟩)
abbrev s_is_whole : Stmt := top 7
abbrev s_need_standings : Stmt := top 11
abbrev s_is_letters : Stmt := top 12
abbrev s_need_letters : Stmt := top 13
abbrev s_walked_lamps : Stmt := top 14
abbrev s_lamps_added : Stmt := top 15
abbrev s_lamps_moved : Stmt := top 16
abbrev s_fold_of : Stmt := top 17
abbrev s_lamps_over : Stmt := top 18
abbrev s_turning_letters : Stmt := top 19
abbrev s_best_way : Stmt := top 20
abbrev s_shortest_letters : Stmt := top 21
abbrev s_divided_lamps : Stmt := top 23
abbrev s_lamp_part : Stmt := top 24
abbrev s_law_deck : Stmt := top 26
abbrev s_law_draw : Stmt := top 27
abbrev s_law_pick : Stmt := top 28
abbrev s_law_turned : Stmt := top 29
abbrev s_law_bent : Stmt := top 30
abbrev s_law_common : Stmt := top 31
abbrev s_law_fold : Stmt := top 32
abbrev s_law_form : Stmt := top 33
abbrev s_law_has_lamp_part : Stmt := top 34
abbrev s_law_is_integer : Stmt := top 35
abbrev s_law_lamps_times : Stmt := top 36
abbrev s_law_is_lamp_part : Stmt := top 37
abbrev s_law_is_lamp_row : Stmt := top 38
abbrev s_law_lamp_row : Stmt := top 39
abbrev s_law_lamps_tried : Stmt := top 40
abbrev s_law_modulus : Stmt := top 41
abbrev s_law_odd : Stmt := top 42
abbrev s_law_odd_modulus : Stmt := top 43
abbrev s_law_undone : Stmt := top 44
abbrev s_law_whole : Stmt := top 45
abbrev s_law_is_part_told : Stmt := top 46
abbrev s_law_is_refused : Stmt := top 47
abbrev s_law : Stmt := top 48
def d_is_whole : He.DefD := ⟨("is_whole", none), "is_whole", "is_whole", defArgs s_is_whole, defBody s_is_whole, defScope s_is_whole, [], []⟩
def d_need_standings : He.DefD := ⟨("need_standings", none), "need_standings", "need_standings", defArgs s_need_standings, defBody s_need_standings, defScope s_need_standings, [], []⟩
def d_is_letters : He.DefD := ⟨("is_letters", none), "is_letters", "is_letters", defArgs s_is_letters, defBody s_is_letters, defScope s_is_letters, [], []⟩
def d_need_letters : He.DefD := ⟨("need_letters", none), "need_letters", "need_letters", defArgs s_need_letters, defBody s_need_letters, defScope s_need_letters, [], []⟩
def d_walked_lamps : He.DefD := ⟨("walked_lamps", none), "walked_lamps", "walked_lamps", defArgs s_walked_lamps, defBody s_walked_lamps, defScope s_walked_lamps, [], []⟩
def d_lamps_added : He.DefD := ⟨("lamps_added", none), "lamps_added", "lamps_added", defArgs s_lamps_added, defBody s_lamps_added, defScope s_lamps_added, [], []⟩
def d_lamps_moved : He.DefD := ⟨("lamps_moved", none), "lamps_moved", "lamps_moved", defArgs s_lamps_moved, defBody s_lamps_moved, defScope s_lamps_moved, [], []⟩
def d_fold_of : He.DefD := ⟨("fold_of", none), "fold_of", "fold_of", defArgs s_fold_of, defBody s_fold_of, defScope s_fold_of, [], []⟩
def d_lamps_over : He.DefD := ⟨("lamps_over", none), "lamps_over", "lamps_over", defArgs s_lamps_over, defBody s_lamps_over, defScope s_lamps_over, [], []⟩
def d_turning_letters : He.DefD := ⟨("turning_letters", none), "turning_letters", "turning_letters", defArgs s_turning_letters, defBody s_turning_letters, defScope s_turning_letters, [], []⟩
def d_best_way : He.DefD := ⟨("best_way", none), "best_way", "best_way", defArgs s_best_way, defBody s_best_way, defScope s_best_way, [], []⟩
def d_shortest_letters : He.DefD := ⟨("shortest_letters", none), "shortest_letters", "shortest_letters", defArgs s_shortest_letters, defBody s_shortest_letters, defScope s_shortest_letters, [], []⟩
def d_divided_lamps : He.DefD := ⟨("divided_lamps", none), "divided_lamps", "divided_lamps", defArgs s_divided_lamps, defBody s_divided_lamps, defScope s_divided_lamps, [], []⟩
def d_lamp_part : He.DefD := ⟨("lamp_part", none), "lamp_part", "lamp_part", defArgs s_lamp_part, defBody s_lamp_part, defScope s_lamp_part, [], []⟩
def d_law_deck : He.DefD := ⟨("_law_deck", none), "_law_deck", "_law_deck", defArgs s_law_deck, defBody s_law_deck, defScope s_law_deck, [], []⟩
def d_law_draw : He.DefD := ⟨("_law_draw", none), "_law_draw", "_law_draw", defArgs s_law_draw, defBody s_law_draw, defScope s_law_draw, [], []⟩
def d_law_pick : He.DefD := ⟨("_law_pick", none), "_law_pick", "_law_pick", defArgs s_law_pick, defBody s_law_pick, defScope s_law_pick, [], []⟩
def d_law_turned : He.DefD := ⟨("_law_turned", none), "_law_turned", "_law_turned", defArgs s_law_turned, defBody s_law_turned, defScope s_law_turned, [], []⟩
def d_law_bent : He.DefD := ⟨("_law_bent", none), "_law_bent", "_law_bent", defArgs s_law_bent, defBody s_law_bent, defScope s_law_bent, [], []⟩
def d_law_common : He.DefD := ⟨("_law_common", none), "_law_common", "_law_common", defArgs s_law_common, defBody s_law_common, defScope s_law_common, [], []⟩
def d_law_fold : He.DefD := ⟨("_law_fold", none), "_law_fold", "_law_fold", defArgs s_law_fold, defBody s_law_fold, defScope s_law_fold, [], []⟩
def d_law_form : He.DefD := ⟨("_law_form", none), "_law_form", "_law_form", defArgs s_law_form, defBody s_law_form, defScope s_law_form, [], []⟩
def d_law_has_lamp_part : He.DefD := ⟨("_law_has_lamp_part", none), "_law_has_lamp_part", "_law_has_lamp_part", defArgs s_law_has_lamp_part, defBody s_law_has_lamp_part, defScope s_law_has_lamp_part, [], []⟩
def d_law_is_integer : He.DefD := ⟨("_law_is_integer", none), "_law_is_integer", "_law_is_integer", defArgs s_law_is_integer, defBody s_law_is_integer, defScope s_law_is_integer, [], []⟩
def d_law_lamps_times : He.DefD := ⟨("_law_lamps_times", none), "_law_lamps_times", "_law_lamps_times", defArgs s_law_lamps_times, defBody s_law_lamps_times, defScope s_law_lamps_times, [], []⟩
def d_law_is_lamp_part : He.DefD := ⟨("_law_is_lamp_part", none), "_law_is_lamp_part", "_law_is_lamp_part", defArgs s_law_is_lamp_part, defBody s_law_is_lamp_part, defScope s_law_is_lamp_part, [], []⟩
def d_law_is_lamp_row : He.DefD := ⟨("_law_is_lamp_row", none), "_law_is_lamp_row", "_law_is_lamp_row", defArgs s_law_is_lamp_row, defBody s_law_is_lamp_row, defScope s_law_is_lamp_row, [], []⟩
def d_law_lamp_row : He.DefD := ⟨("_law_lamp_row", none), "_law_lamp_row", "_law_lamp_row", defArgs s_law_lamp_row, defBody s_law_lamp_row, defScope s_law_lamp_row, [], []⟩
def d_law_lamps_tried : He.DefD := ⟨("_law_lamps_tried", none), "_law_lamps_tried", "_law_lamps_tried", defArgs s_law_lamps_tried, defBody s_law_lamps_tried, defScope s_law_lamps_tried, [], []⟩
def d_law_modulus : He.DefD := ⟨("_law_modulus", none), "_law_modulus", "_law_modulus", defArgs s_law_modulus, defBody s_law_modulus, defScope s_law_modulus, [], []⟩
def d_law_odd : He.DefD := ⟨("_law_odd", none), "_law_odd", "_law_odd", defArgs s_law_odd, defBody s_law_odd, defScope s_law_odd, [], []⟩
def d_law_odd_modulus : He.DefD := ⟨("_law_odd_modulus", none), "_law_odd_modulus", "_law_odd_modulus", defArgs s_law_odd_modulus, defBody s_law_odd_modulus, defScope s_law_odd_modulus, [], []⟩
def d_law_undone : He.DefD := ⟨("_law_undone", none), "_law_undone", "_law_undone", defArgs s_law_undone, defBody s_law_undone, defScope s_law_undone, [], []⟩
def d_law_whole : He.DefD := ⟨("_law_whole", none), "_law_whole", "_law_whole", defArgs s_law_whole, defBody s_law_whole, defScope s_law_whole, [], []⟩
def d_law_is_part_told : He.DefD := ⟨("_law_is_part_told", none), "_law_is_part_told", "_law_is_part_told", defArgs s_law_is_part_told, defBody s_law_is_part_told, defScope s_law_is_part_told, [], []⟩
def d_law_is_refused : He.DefD := ⟨("_law_is_refused", none), "_law_is_refused", "_law_is_refused", defArgs s_law_is_refused, defBody s_law_is_refused, defScope s_law_is_refused, [], []⟩
def d_law : He.DefD := ⟨("law", none), "law", "law", defArgs s_law, defBody s_law, defScope s_law, [], []⟩
abbrev s_BadShow_init : Stmt := inClass (top 3) 0
def d_BadShow_init : He.DefD := ⟨("BadShow", some "__init__"), "__init__", "BadShow.__init__", defArgs s_BadShow_init, defBody s_BadShow_init, defScope s_BadShow_init, [], []⟩
abbrev s_BadLetters_init : Stmt := inClass (top 4) 0
def d_BadLetters_init : He.DefD := ⟨("BadLetters", some "__init__"), "__init__", "BadLetters.__init__", defArgs s_BadLetters_init, defBody s_BadLetters_init, defScope s_BadLetters_init, [], []⟩
abbrev s_BadNumber_init : Stmt := inClass (top 5) 0
def d_BadNumber_init : He.DefD := ⟨("BadNumber", some "__init__"), "__init__", "BadNumber.__init__", defArgs s_BadNumber_init, defBody s_BadNumber_init, defScope s_BadNumber_init, [], []⟩
def fn0 : List He.DefD := [d_is_whole, d_need_standings, d_is_letters, d_need_letters, d_walked_lamps, d_lamps_added, d_lamps_moved, d_fold_of, d_lamps_over, d_turning_letters, d_best_way, d_shortest_letters, d_divided_lamps, d_lamp_part, d_law_deck, d_law_draw, d_law_pick, d_law_turned, d_law_bent, d_law_common, d_law_fold, d_law_form, d_law_has_lamp_part, d_law_is_integer, d_law_lamps_times, d_law_is_lamp_part, d_law_is_lamp_row, d_law_lamp_row, d_law_lamps_tried, d_law_modulus]
def fn1 : List He.DefD := [d_law_odd, d_law_odd_modulus, d_law_undone, d_law_whole, d_law_is_part_told, d_law_is_refused, d_law, d_BadShow_init, d_BadLetters_init, d_BadNumber_init]
def fn : List He.DefD := fn0 ++ fn1
def fa0 : List He.Fa := [.glo "is_whole", .glo "need_standings", .glo "is_letters", .glo "need_letters", .glo "walked_lamps", .glo "lamps_added", .glo "lamps_moved", .glo "fold_of", .glo "lamps_over", .glo "turning_letters", .glo "best_way", .glo "shortest_letters", .glo "divided_lamps", .glo "lamp_part", .glo "_law_deck", .glo "_law_draw", .glo "_law_pick", .glo "_law_turned", .glo "_law_bent", .glo "_law_common", .glo "_law_fold", .glo "_law_form", .glo "_law_has_lamp_part", .glo "_law_is_integer", .glo "_law_lamps_times", .glo "_law_is_lamp_part", .glo "_law_is_lamp_row", .glo "_law_lamp_row", .glo "_law_lamps_tried", .glo "_law_modulus"]
def fa1 : List He.Fa := [.glo "_law_odd", .glo "_law_odd_modulus", .glo "_law_undone", .glo "_law_whole", .glo "_law_is_part_told", .glo "_law_is_refused", .glo "law", .glo "StileError", .glo "BadShow", .glo "BadLetters", .glo "BadNumber", .free "Exception", .free "ValueError", .free "abs", .free "all", .free "bool", .free "dict", .free "int", .free "isinstance", .free "len", .free "list", .free "max", .free "min", .free "range", .free "repr", .free "sorted", .free "str", .free "sum", .free "tuple", .int "MOST_STANDINGS" 1000]
def fa2 : List He.Fa := [.glo "LETTERS"]
def fa : List He.Fa := fa0 ++ fa1 ++ fa2
def tf : List He.Defn := [("_law_is_refused", none)]
def ex (K : PySem.W.Frag) : Bool := He.tupB K "LETTERS" [.int 1, .int (-1), .int 2, .int (-2)] && (excB K "thing" "BadLetters" && (excB K "thing" "BadNumber" && (exdB K "thing" "BadLetters" && (exdB K "thing" "BadNumber" && (tryB K ["BadLetters", "BadNumber", "BadShow"] [("BadLetters", true), ("BadNumber", false), ("BadShow", false), ("StileError", true)] [("ValueError", false)] "BadLetters" && (tryB K ["BadLetters", "BadNumber", "BadShow"] [("BadLetters", false), ("BadNumber", true), ("BadShow", false), ("StileError", true)] [("ValueError", false)] "BadNumber" && (He.eqO (PySem.W.nsIn K mainGlobals "gcd") (some (some (.builtin "math.gcd"))) && (sysB K && (tabsApart K tf)))))))))
def loose0 : List Str := ["__name__", "StileError", "BadShow", "BadLetters", "BadNumber", "is_whole", "MOST_STANDINGS", "LETTERS", "need_standings", "is_letters", "need_letters", "walked_lamps", "lamps_added", "lamps_moved", "fold_of", "lamps_over", "turning_letters", "best_way", "shortest_letters", "divided_lamps", "lamp_part", "_law_deck", "_law_draw", "_law_pick", "_law_turned", "_law_bent", "_law_common", "_law_fold", "_law_form", "_law_has_lamp_part"]
def loose1 : List Str := ["_law_is_integer", "_law_lamps_times", "_law_is_lamp_part", "_law_is_lamp_row", "_law_lamp_row", "_law_lamps_tried", "_law_modulus", "_law_odd", "_law_odd_modulus", "_law_undone", "_law_whole", "_law_is_part_told", "_law_is_refused"]
def loose : List Str := loose0 ++ loose1
abbrev R : PySem.W.OpenRow := PySem.W.OpenLaw.row PySem.Challenge.rw_stileturns_k83_parts_of_lamp_rows
abbrev qv : Program := PySem.W.view R.prog [0, 48]
abbrev hk : PySem.W.Hook := DL.hookS 5 fa fn tf ex
def ob (s : PySem.W.SharedT) : He.AlX := DL.obsS 5 fa fn tf ex (HandSHeadRun.getT s)
theorem ob_eq (s : PySem.W.SharedT) : ob s = hk.obs s.abs := DL.obsS_eq (HandSHeadRun.getT_eq s)
theorem run (w : World) : HandSHeadRun.RunEqI R qv hk ob 6000 loose w := by
  unfold HandSHeadRun.RunEqI
  kernel_rfl
end Kx
set_option maxHeartbeats 4000000
namespace DL
open PySem PySem.Spec PyProof.Rows L2
section
variable {W : Wd} {F0 : Hp} {X : Cx} {pos : Pos} {a b c e i o : Expr} {es : List Expr} {ta tb tc te td ty tx tv : TED} {t : TAD}
/-! ### what an expression gives is not changed from then on -/
def dLockD (te : TED) : TED := fun δ M k => te δ M fun d M1 => match d with
  | .ref a => (match M1 a with | some (.dic kvs) => k (.dic (kvs.map (·.1)) (kvs.map (·.2))) (delM M1 a) | _ => False)
  | _ => False
theorem pd_lockD (h : PED W F0 X e te) : PED W F0 X e (dLockD te) :=
  PE.wk (pe_locked h) fun σ H Q ⟨δ, F, M, k, hs, R, h1, g⟩ => ⟨δ, F, M, _, hs, R, h1, fun d M1 h2 v F1 H1 R1 r1 => by
    split at h2
    · rename_i a0
      cases r1
      split at h2
      · rename_i kvs em
        obtain ⟨xs, q, t0⟩ := (R1.mo a0 _ em).2
        refine ⟨a0, _, q, trivial, fun od => ?_⟩
        obtain ⟨R2, r2⟩ := freezeD (od := od) R1 em q t0
        exact g _ _ h2 _ _ _ R2 r2
      · exact h2.elim
    · exact h2.elim⟩
def dLockL (te : TED) : TED := fun δ M k => te δ M fun d M1 => match d with
  | .ref a => (match M1 a with | some (.lst ds) => k (.lst ds) (delM M1 a) | _ => False)
  | _ => False
theorem pd_lockL (h : PED W F0 X e te) : PED W F0 X e (dLockL te) :=
  PE.wk h fun σ H Q ⟨δ, F, M, k, hs, R, h1, g⟩ => ⟨δ, F, M, _, hs, R, h1, fun d M1 h2 v F1 H1 R1 r1 => by
    split at h2
    · rename_i a0
      cases r1
      split at h2
      · rename_i ds em
        obtain ⟨xs, q, t0⟩ := (R1.mo a0 _ em).2
        obtain ⟨R2, r2⟩ := R1.freezeL em q t0
        exact g _ _ h2 _ _ _ R2 r2
      · exact h2.elim
    · exact h2.elim⟩
/-! ### a list * int, a list that may change -/
def rMulM : R2D := fun x y M k => match x, y with
  | .lst xs, .int n => -1000000 ≤ n ∧ n ≤ 1000000 ∧ xs.length * n.toNat ≤ sizeLine ∧ ∀ p, M p = none → k (.ref p) (updM M p (.lst (List.replicate n.toNat xs).flatten))
  | _, _ => False
theorem od_mulM : OpD W X (binaryOp .Mult) rMulM := by
  intro pins s σ H x y v u Q I rx ry ⟨F, M, k, d, e, R, rd, re, h, g⟩
  unfold rMulM at h
  split at h
  · obtain ⟨a, xv, rfl, ea, ra⟩ := rd
    cases re
    obtain ⟨h1, h2, h3, h⟩ := h
    exact op_rep pins s σ H _ _ v u Q I rx ry ⟨a, _, xv, rfl, rfl, R.le _ _ ea, by omega, by omega, by rw [← ra.length]; exact h3, fun p np =>
      g _ _ (h p (R.fresh np).1) _ _ _ (R.newM np ⟨_, upd_same, ra.rep _⟩) rfl⟩
  · exact h.elim
/-! ### d == {} -/
def rEqE (neg : Bool) : R2D := fun x y M k => match dicOf M x, y with
  | some kvs, .dic [] [] => k (.bl (if neg then !kvs.isEmpty else kvs.isEmpty)) M
  | _, _ => False
theorem od_eqE (hu : X.A.units < cLine) : OpD W X (compareOp .Eq) (rEqE false) := by
  intro pins s σ H x y v u Q I rx ry ⟨F, M, k, d, e, R, r1, r2, h, g⟩
  unfold rEqE at h
  split at h
  · rename_i kvs em
    obtain ⟨a0, xs0, ev, q, t0⟩ := dicOf_at R em r1
    subst ev
    obtain ⟨b0, ys, ob, e2, q2, _, t2⟩ := r2
    cases t2
    subst e2
    obtain rfl : v = Value.ref a0 := rx
    obtain rfl : u = Value.ref b0 := ry
    obtain ⟨_, ya, va, ra, da⟩ := dk_rd I.hok q
    obtain ⟨_, yb, vb, rb, db⟩ := dk_rd I.hok (.inr ⟨ob, R.le _ _ q2⟩)
    have lb : vb = [] := by cases rb; rfl
    subst lb
    have hl : va.length = kvs.length := by rw [← ra.length, zip_len t0]
    refine PySem.W.keq_eq (knd := mixKind X.prog X.w) (r := true) ya yb da db hu (fun hz => ?_) ⟨.bl kvs.isEmpty, H, I, ?_, g _ _ h _ F H R rfl⟩
    · have : va = [] := List.eq_nil_of_length_eq_zero hz
      subst this
      exact PySem.W.KeqHits.nil
    · show _ = Value.bool _
      congr 1
      cases kvs with
      | nil => simp at hl; simp [hl]
      | cons _ _ => simp at hl; simp [hl]
  · exact h.elim
end
end DL
set_option maxHeartbeats 2000000
namespace DL
open PySem PySem.Spec L2
/-! ### three parameters by name -/
def pm231 {α : Type} : List α → List α
  | [a, b, c] => [b, c, a]
  | _ => []
def pm321 {α : Type} : List α → List α
  | [a, b, c] => [c, b, a]
  | _ => []
theorem kw231 {x y1 y2 y3 : Str} {st : Stmt} (h : ∀ (kV doc pmo : Value) (an : Option Addr) (cdv ct : Value) (u v z : Value), bindArgs (PySem.W.fnOf x x (defArgs st) (defBody st) (defScope st) .none kV doc pmo an cdv ct) ⟨[], [(y3, u), (y1, v), (y2, z)]⟩ = pure [(y1, v), (y2, z), (y3, u)]) : KwOf x st [y1, y2, y3] [y3, y1, y2] pm231 pm231 pm231 := by
  refine ⟨fun _ _ _ _ _ _ ws hl => ?_, fun {zs ws} r => ?_, fun {F ds zs} r => ?_, fun zs h => ?_⟩
  · match ws, hl with
    | [u, v, z], _ => exact h ..
  · cases r with
    | nil => exact .nil
    | cons r1 t1 => cases t1 with
      | nil => exact .nil
      | cons r2 t2 => cases t2 with
        | nil => exact .nil
        | cons r3 t3 => cases t3 with
          | nil => exact .cons r2 (.cons r3 (.cons r1 .nil))
          | cons _ _ => exact .nil
  · match ds, r with
    | [], r => cases r; rfl
    | [d], ⟨x, _, e, q, rfl⟩ => subst e; rfl
    | [d1, d2], ⟨x, _, e, q, x2, _, e2, q2, rfl⟩ => subst e2; subst e; rfl
    | [d1, d2, d3], ⟨x, _, e, q, x2, _, e2, q2, x3, _, e3, q3, rfl⟩ => subst e3; subst e2; subst e; exact ⟨x2, _, rfl, q2, x3, _, rfl, q3, x, _, rfl, q, rfl⟩
    | d1 :: d2 :: d3 :: d4 :: ds, ⟨x, _, e, q, x2, _, e2, q2, x3, _, e3, q3, x4, _, e4, q4, t⟩ => subst e4; subst e3; subst e2; subst e; rfl
  · match zs, h with
    | [a, b, c], _ => rfl
    | [], h => cases h
    | [_], h => cases h
    | [_, _], h => cases h
    | _ :: _ :: _ :: _ :: _, h => cases h
theorem kw321 {x y1 y2 y3 : Str} {st : Stmt} (h : ∀ (kV doc pmo : Value) (an : Option Addr) (cdv ct : Value) (u v z : Value), bindArgs (PySem.W.fnOf x x (defArgs st) (defBody st) (defScope st) .none kV doc pmo an cdv ct) ⟨[], [(y3, u), (y2, v), (y1, z)]⟩ = pure [(y1, z), (y2, v), (y3, u)]) : KwOf x st [y1, y2, y3] [y3, y2, y1] pm321 pm321 pm321 := by
  refine ⟨fun _ _ _ _ _ _ ws hl => ?_, fun {zs ws} r => ?_, fun {F ds zs} r => ?_, fun zs h => ?_⟩
  · match ws, hl with
    | [u, v, z], _ => exact h ..
  · cases r with
    | nil => exact .nil
    | cons r1 t1 => cases t1 with
      | nil => exact .nil
      | cons r2 t2 => cases t2 with
        | nil => exact .nil
        | cons r3 t3 => cases t3 with
          | nil => exact .cons r3 (.cons r2 (.cons r1 .nil))
          | cons _ _ => exact .nil
  · match ds, r with
    | [], r => cases r; rfl
    | [d], ⟨x, _, e, q, rfl⟩ => subst e; rfl
    | [d1, d2], ⟨x, _, e, q, x2, _, e2, q2, rfl⟩ => subst e2; subst e; rfl
    | [d1, d2, d3], ⟨x, _, e, q, x2, _, e2, q2, x3, _, e3, q3, rfl⟩ => subst e3; subst e2; subst e; exact ⟨x3, _, rfl, q3, x2, _, rfl, q2, x, _, rfl, q, rfl⟩
    | d1 :: d2 :: d3 :: d4 :: ds, ⟨x, _, e, q, x2, _, e2, q2, x3, _, e3, q3, x4, _, e4, q4, t⟩ => subst e4; subst e3; subst e2; subst e; rfl
  · match zs, h with
    | [a, b, c], _ => rfl
    | [], h => cases h
    | [_], h => cases h
    | [_, _], h => cases h
    | _ :: _ :: _ :: _ :: _, h => cases h
end DL
set_option maxHeartbeats 2000000
namespace Kx
open PySem PySem.Spec L2 DL
/-! ### data of any depth -/
mutual
def gd : D → Prop
  | .tup ds => ds.length ≤ sizeLine ∧ gds ds
  | .lst ds => ds.length ≤ sizeLine ∧ gds ds
  | .dic ks ds => ks.length = ds.length ∧ gds ds
  | .ref _ => False
  | .ty _ => False
  | _ => True
def gds : List D → Prop
  | [] => True
  | d :: ds => gd d ∧ gds ds
end
theorem gds_mem : ∀ {ds : List D}, gds ds → ∀ x ∈ ds, gd x
  | [], _, x, h => by cases h
  | d :: ds, ⟨h1, h2⟩, x, h => by
    rcases List.mem_cons.mp h with e | e
    · rw [e]; exact h1
    · exact gds_mem h2 x e
theorem gds_of : ∀ {ds : List D}, (∀ x ∈ ds, gd x) → gds ds
  | [], _ => trivial
  | d :: ds, h => ⟨h d List.mem_cons_self, gds_of fun x hx => h x (List.mem_cons_of_mem _ hx)⟩
theorem gd_dat {d : D} (h : gd d) : (tyD d).isSome = true := by
  cases d <;> first | rfl | exact h.elim
theorem gd_tup {xs : List D} (h : gd (.tup xs)) : xs.length ≤ sizeLine ∧ ∀ x ∈ xs, gd x := ⟨h.1, gds_mem h.2⟩
/-! ### slices from, to -/
theorem cut_from (xs : List D) (k : Nat) : cutD xs (some (k : Int)) none = xs.drop k := by
  unfold cutD
  rw [HT.sIx_nat, HT.sIx_none]
  by_cases h : k ≤ xs.length
  · rw [Nat.min_eq_left h]
    exact List.take_of_length_le (by simp)
  · rw [Nat.min_eq_right (by omega), List.drop_eq_nil_of_le (Nat.le_refl _), List.drop_eq_nil_of_le (by omega), List.take_nil]
theorem cut_to (xs : List D) (k : Nat) : cutD xs none (some (k : Int)) = xs.take k := by
  unfold cutD
  rw [HT.sIx_nat, HT.sIx_none, Nat.sub_zero, List.drop_zero]
  by_cases h : k ≤ xs.length
  · rw [Nat.min_eq_left h]
  · rw [Nat.min_eq_right (by omega), List.take_of_length_le (Nat.le_refl _), List.take_of_length_le (by omega)]
theorem cut_mid (xs : List D) (j k : Nat) : cutD xs (some (j : Int)) (some (k : Int)) = (xs.drop j).take (k - j) := by
  unfold cutD
  rw [HT.sIx_nat, HT.sIx_nat]
  by_cases hj : j ≤ xs.length
  · rw [Nat.min_eq_left hj]
    by_cases h : k ≤ xs.length
    · rw [Nat.min_eq_left h]
    · rw [Nat.min_eq_right (by omega), List.take_of_length_le (by simp), List.take_of_length_le (by simp; omega)]
  · rw [Nat.min_eq_right (by omega : xs.length ≤ j), List.drop_eq_nil_of_le (Nat.le_refl _), List.drop_eq_nil_of_le (by omega), List.take_nil, List.take_nil]
/-! ### dicts of ints -/
abbrev DI := List (Int × Int)
def kvsOf (L : DI) : List (Key × D) := L.map fun q => (Sum.inl q.1, D.int q.2)
def getI (L : DI) (k : Int) : Int := ((L.find? fun q => decide (q.1 = k)).map (·.2)).getD 0
def putI (L : DI) (k v : Int) : DI := if (L.any fun q => decide (q.1 = k)) = true then L.map (fun q => if q.1 = k then (q.1, v) else q) else L ++ [(k, v)]
theorem kvs_any (L : DI) (k : Int) : ((kvsOf L).any fun kv => decide (kv.1 = Sum.inl k)) = L.any fun q => decide (q.1 = k) := by
  unfold kvsOf
  rw [List.any_map]
  congr 1
  funext q
  simp
theorem kvs_put (L : DI) (k v : Int) : putD (kvsOf L) (.inl k) (.int v) = kvsOf (putI L k v) := by
  unfold putD putI
  rw [kvs_any]
  split
  · unfold kvsOf
    rw [List.map_map, List.map_map]
    apply List.map_congr_left
    intro q _
    by_cases h : q.1 = k <;> simp [h]
  · unfold kvsOf; simp
theorem kvs_look (L : DI) (k : Int) : lookD (kvsOf L) (.inl k) = ((L.find? fun q => decide (q.1 = k)).map fun q => D.int q.2) := by
  unfold lookD kvsOf
  rw [List.find?_map, Option.map_map]
  congr 1
  · congr 1
    funext q
    simp
theorem kvs_get (L : DI) (k : Int) : (lookD (kvsOf L) (.inl k)).getD (.int 0) = .int (getI L k) := by
  rw [kvs_look]
  unfold getI
  cases L.find? fun q => decide (q.1 = k) <;> rfl
theorem kvs_at {L : DI} {k : Int} (h : k ∈ L.map (·.1)) : lookD (kvsOf L) (.inl k) = some (.int (getI L k)) := by
  rw [kvs_look]
  unfold getI
  cases e : L.find? fun q => decide (q.1 = k) with
  | some q => rfl
  | none =>
    rw [List.find?_eq_none] at e
    obtain ⟨q, hq, eq⟩ := List.mem_map.mp h
    exact absurd (e q hq) (by simp [eq])
theorem keys_put (L : DI) (k v : Int) : (putI L k v).map (·.1) = if k ∈ L.map (·.1) then L.map (·.1) else L.map (·.1) ++ [k] := by
  unfold putI
  have e : (L.any fun q => decide (q.1 = k)) = true ↔ k ∈ L.map (·.1) := by
    rw [List.any_eq_true, List.mem_map]
    constructor
    · rintro ⟨q, h1, h2⟩; exact ⟨q, h1, by simpa using h2⟩
    · rintro ⟨q, h1, h2⟩; exact ⟨q, h1, by simpa using h2⟩
  by_cases h : k ∈ L.map (·.1)
  · rw [if_pos (e.mpr h), if_pos h, List.map_map]
    apply List.map_congr_left
    intro q _
    by_cases hq : q.1 = k <;> simp [hq]
  · rw [if_neg (fun z => h (e.mp z)), if_neg h]; simp
theorem nodup_put {L : DI} {k v : Int} (h : (L.map (·.1)).Nodup) : ((putI L k v).map (·.1)).Nodup := by
  rw [keys_put]
  split
  · exact h
  · rename_i hk
    rw [List.nodup_append]
    exact ⟨h, by simp, fun a ha b hb => by rw [List.mem_singleton.mp hb]; intro z; exact hk (z ▸ ha)⟩
theorem len_put (L : DI) (k v : Int) : (putI L k v).length ≤ L.length + 1 := by
  unfold putI
  split <;> simp
theorem get_put (L : DI) (k v j : Int) : getI (putI L k v) j = if j = k then v else getI L j := by
  unfold putI getI
  by_cases ha : (L.any fun q => decide (q.1 = k)) = true
  · rw [if_pos ha]
    rw [List.find?_map]
    have e : ((fun q : Int × Int => decide (q.1 = j)) ∘ fun q => if q.1 = k then (q.1, v) else q) = fun q => decide (q.1 = j) := by
      funext q
      by_cases hq : q.1 = k <;> simp [hq]
    rw [e]
    by_cases hj : j = k
    · subst hj
      rw [if_pos rfl]
      cases ef : L.find? fun q => decide (q.1 = j) with
      | none =>
        rw [List.find?_eq_none] at ef
        obtain ⟨q, hq, eq⟩ := List.any_eq_true.mp ha
        exact absurd eq (ef q hq)
      | some q =>
        have := List.find?_some ef
        have h2 : q.1 = j := by simpa using this
        simp [h2]
    · rw [if_neg hj]
      cases ef : L.find? fun q => decide (q.1 = j) with
      | none => rfl
      | some q =>
        have := List.find?_some ef
        have h2 : q.1 = j := by simpa using this
        have h3 : ¬ q.1 = k := by rw [h2]; exact hj
        simp [h3]
  · rw [if_neg ha, List.find?_append]
    by_cases hj : j = k
    · subst hj
      rw [if_pos rfl]
      have : L.find? (fun q => decide (q.1 = j)) = none := by
        rw [List.find?_eq_none]
        intro q hq z
        exact ha (List.any_eq_true.mpr ⟨q, hq, z⟩)
      rw [this]
      simp
    · rw [if_neg hj]
      cases L.find? fun q => decide (q.1 = j) with
      | some q => rfl
      | none =>
        have : ¬ k = j := fun z => hj z.symm
        simp [this]
theorem intKeys_kvs (L : DI) : intKeys ((kvsOf L).map (·.1)) = some (L.map (·.1)) := by
  have e : (kvsOf L).map (·.1) = (L.map (·.1)).map Sum.inl := by unfold kvsOf; rw [List.map_map, List.map_map]; rfl
  rw [e, intKeys_map]
theorem pw_strict : ∀ {l : List Int}, l.Pairwise (· ≤ ·) → l.Nodup → l.Pairwise (· < ·)
  | [], _, _ => .nil
  | a :: r, h, n => by
    obtain ⟨h1, h2⟩ := List.pairwise_cons.mp h
    obtain ⟨n1, n2⟩ := List.nodup_cons.mp n
    refine List.pairwise_cons.mpr ⟨fun x hx => ?_, pw_strict h2 n2⟩
    have := h1 x hx
    have : a ≠ x := fun z => n1 (z ▸ hx)
    omega
theorem sorted_is {ns bs : List Int} (h1 : ns.Perm bs) (h2 : ns.Pairwise (· ≤ ·)) (hn : bs.Nodup) : ns = sortU bs :=
  pw_eq (pw_strict h2 (h1.nodup_iff.mpr hn)) pw_sortU fun k => by rw [mem_sortU, h1.mem_iff]
theorem rd_sortedD {L : DI} {a : Addr} {M : Sto} {k : DKt} (hM : M a = some (.dic (kvsOf L))) (hn : (L.map (·.1)).Nodup) (hl : L.length < 64) (hk : k (.lst ((sortU (L.map (·.1))).map D.int)) M) : rSortedD [.ref a] M k := by
  unfold rSortedD
  simp only [hM, intKeys_kvs]
  exact ⟨by simpa using hl, fun ns p1 p2 => by rw [sorted_is p1 p2 hn]; exact hk⟩
theorem sortU_len : ∀ l : List Int, (sortU l).length ≤ l.length
  | [] => Nat.le_refl _
  | n :: r => by
    have h1 : ∀ l : List Int, (insU n l).length ≤ l.length + 1 := by
      intro l
      induction l with
      | nil => simp [insU]
      | cons m l ih =>
        unfold insU
        split
        · simp
        · split
          · simp
          · simp; exact ih
    have := h1 (sortU r)
    have := sortU_len r
    show (insU n (sortU r)).length ≤ _
    simp; omega
end Kx
set_option maxHeartbeats 2000000
namespace Kx
open PySem PySem.Spec L2 DL
/-! ### data with small texts -/
mutual
/-- data without dicts, the ints small -/
def cln (b : Nat) : D → Bool
  | .int i => decide (i.natAbs < 2 ^ b)
  | .str _ => true
  | .non => true
  | .bl _ => true
  | .tup ds => clns b ds
  | .lst ds => clns b ds
  | _ => false
def clns (b : Nat) : List D → Bool
  | [] => true
  | d :: ds => cln b d && clns b ds
end
mutual
def wt : D → Nat
  | .int _ => 2000
  | .str x => (reprText x).length
  | .non => 5
  | .bl _ => 5
  | .tup ds => 3 + wts ds
  | .lst ds => 3 + wts ds
  | _ => 0
def wts : List D → Nat
  | [] => 0
  | d :: ds => wt d + 2 + wts ds
end
mutual
def dp : D → Nat
  | .tup ds => dps ds + 1
  | .lst ds => dps ds + 1
  | _ => 0
def dps : List D → Nat
  | [] => 0
  | d :: ds => max (dp d) (dps ds)
end
theorem int_show {i : Int} {b : Nat} (hb : b ≤ 1900) (h : i.natAbs < 2 ^ b) : i.natAbs.log2 < 1920 := by
  by_cases h0 : i.natAbs = 0
  · rw [h0]; decide
  · have := (Nat.log2_lt h0).mpr h
    omega
mutual
theorem sh_of {b : Nat} (hb : b ≤ 1900) : ∀ (d : D), cln b d = true → okP d = true ∧ (toP d).showable = true ∧ (toP d).hasDict = false ∧ (toP d).shown.length ≤ wt d ∧ (toP d).depth = dp d
  | .int i, h => by
    have h : i.natAbs < 2 ^ b := by simpa [cln] using h
    have hl := int_show hb h
    refine ⟨rfl, by simpa [toP, PyData.showable] using hl, by simp [toP, PyData.hasDict], ?_, by simp [toP, PyData.depth, dp]⟩
    have := PyProof.Rows.int_text_len_1921 hl
    simp only [toP, PyData.shown, wt]
    exact Nat.le_trans this (by decide)
  | .str x, _ => ⟨rfl, by simp [toP, PyData.showable], by simp [toP, PyData.hasDict], by simp only [toP, PyData.shown, wt]; exact Nat.le_refl _, by simp [toP, PyData.depth, dp]⟩
  | .non, _ => ⟨rfl, by simp [toP, PyData.showable], by simp [toP, PyData.hasDict], by simp only [toP, PyData.shown, wt]; decide +kernel, by simp [toP, PyData.depth, dp]⟩
  | .bl c, _ => ⟨rfl, by simp [toP, PyData.showable], by simp [toP, PyData.hasDict], by simp only [toP, PyData.shown, wt]; cases c <;> decide +kernel, by simp [toP, PyData.depth, dp]⟩
  | .tup ds, h => by
    obtain ⟨h1, h2, h3, h4, h5⟩ := shs_of hb ds (by simpa [cln] using h)
    refine ⟨by simpa [okP] using h1, by simpa [toP, PyData.showable] using h2, by simpa [toP, PyData.hasDict] using h3, ?_, by simp only [toP, PyData.depth, dp, h5]⟩
    simp only [toP, PyData.shown, wt]
    have := tupleText_len_le (PyData.shownAll (toPs ds))
    omega
  | .lst ds, h => by
    obtain ⟨h1, h2, h3, h4, h5⟩ := shs_of hb ds (by simpa [cln] using h)
    refine ⟨by simpa [okP] using h1, by simpa [toP, PyData.showable] using h2, by simpa [toP, PyData.hasDict] using h3, ?_, by simp only [toP, PyData.depth, dp, h5]⟩
    simp only [toP, PyData.shown, wt]
    have := listText_len_le (PyData.shownAll (toPs ds))
    omega
  | .dic _ _, h => by simp [cln] at h
  | .ref _, h => by simp [cln] at h
  | .ty _, h => by simp [cln] at h
theorem shs_of {b : Nat} (hb : b ≤ 1900) : ∀ (ds : List D), clns b ds = true → okPs ds = true ∧ PyData.showableAll (toPs ds) = true ∧ PyData.hasDictAll (toPs ds) = false ∧ ((PyData.shownAll (toPs ds)).map (·.length)).sum + 2 * (PyData.shownAll (toPs ds)).length ≤ wts ds ∧ PyData.depthAll (toPs ds) = dps ds
  | [], _ => ⟨rfl, by simp [toPs, PyData.showableAll], by simp [toPs, PyData.hasDictAll], by simp [toPs, PyData.shownAll], by simp [toPs, PyData.depthAll, dps]⟩
  | d :: ds, h => by
    have h' : cln b d = true ∧ clns b ds = true := by simpa [clns] using h
    obtain ⟨a1, a2, a3, a4, a5⟩ := sh_of hb d h'.1
    obtain ⟨b1, b2, b3, b4, b5⟩ := shs_of hb ds h'.2
    refine ⟨by simp [okPs, a1, b1], by simp [toPs, PyData.showableAll, a2, b2], by simp [toPs, PyData.hasDictAll, a3, b3], ?_, by simp only [toPs, PyData.depthAll, dps, a5, b5]⟩
    simp only [toPs, PyData.shownAll, List.map_cons, List.sum_cons, List.length_cons, wts]
    omega
end
structure Gd (n m b : Nat) (d : D) : Prop where
  c : cln b d = true
  w : wt d ≤ n
  d : dp d ≤ m
theorem Gd.rp {n m b : Nat} {d : D} (g : Gd n m b d) (hb : b ≤ 1900) (hn : n ≤ 16000000) (hm : m ≤ 50) : RpOk d := by
  obtain ⟨h1, h2, h3, h4, h5⟩ := sh_of hb d g.c
  have := g.w; have := g.d
  exact ⟨h1, h2, (fun z => by rw [h3] at z; cases z), (by rw [sizeLine_eq]; unfold shown; omega), (by omega)⟩
theorem clns_append {b : Nat} : ∀ {xs ys : List D}, clns b (xs ++ ys) = (clns b xs && clns b ys)
  | [], _ => by simp [clns]
  | x :: xs, ys => by simp [clns, clns_append (xs := xs) (ys := ys), Bool.and_assoc]
theorem wts_append : ∀ {xs ys : List D}, wts (xs ++ ys) = wts xs + wts ys
  | [], _ => by simp [wts]
  | x :: xs, ys => by simp [wts, wts_append (xs := xs) (ys := ys)]; omega
theorem dps_append : ∀ {xs ys : List D}, dps (xs ++ ys) = max (dps xs) (dps ys)
  | [], _ => by simp [dps]
  | x :: xs, ys => by simp only [List.cons_append, dps, dps_append (xs := xs) (ys := ys)]; omega
/-- of lists -/
structure GL (n m b : Nat) (ds : List D) : Prop where
  c : clns b ds = true
  w : wts ds ≤ n
  d : dps ds ≤ m
  l : ds.length * 2 ≤ n
theorem wts_len : ∀ ds : List D, ds.length * 2 ≤ wts ds
  | [] => by simp
  | d :: ds => by have := wts_len ds; simp only [List.length_cons, wts]; omega
theorem GL.of {n m b : Nat} {ds : List D} (c : clns b ds = true) (w : wts ds ≤ n) (d : dps ds ≤ m) : GL n m b ds := ⟨c, w, d, Nat.le_trans (wts_len ds) w⟩
theorem GL.append {n n' m b : Nat} {xs ys : List D} (g : GL n m b xs) (h : GL n' m b ys) : GL (n + n') m b (xs ++ ys) := .of (by rw [clns_append, g.c, h.c]; rfl) (by rw [wts_append]; have := g.w; have := h.w; omega) (by rw [dps_append]; have := g.d; have := h.d; omega)
theorem GL.parts {n m b : Nat} {xs ys : List D} (g : GL n m b (xs ++ ys)) : GL (wts xs) m b xs ∧ GL (wts ys) m b ys ∧ wts xs + wts ys ≤ n := by
  have c := g.c; have w := g.w; have d := g.d
  rw [clns_append, Bool.and_eq_true] at c
  rw [wts_append] at w
  rw [dps_append] at d
  exact ⟨.of c.1 (Nat.le_refl _) (by omega), .of c.2 (Nat.le_refl _) (by omega), w⟩
theorem GL.mono {n n' m m' b : Nat} {xs : List D} (g : GL n m b xs) (h : n ≤ n') (hm : m ≤ m') : GL n' m' b xs := .of g.c (Nat.le_trans g.w h) (Nat.le_trans g.d hm)
theorem GL.take {n m b : Nat} {xs : List D} (j : Nat) (g : GL n m b xs) : GL n m b (xs.take j) := by
  have h := g
  rw [← List.take_append_drop j xs] at h
  obtain ⟨a, _, c⟩ := h.parts
  exact a.mono (by omega) (Nat.le_refl _)
theorem GL.drop {n m b : Nat} {xs : List D} (j : Nat) (g : GL n m b xs) : GL n m b (xs.drop j) := by
  have h := g
  rw [← List.take_append_drop j xs] at h
  obtain ⟨_, a, c⟩ := h.parts
  exact a.mono (by omega) (Nat.le_refl _)
theorem GL.cons {n n' m b : Nat} {x : D} {xs : List D} (g : Gd n m b x) (h : GL n' m b xs) : GL (n + 2 + n') m b (x :: xs) := .of (by simp [clns, g.c, h.c]) (by have := g.w; have := h.w; simp only [wts]; omega) (by have := g.d; have := h.d; simp only [dps]; omega)
theorem GL.nil {m b : Nat} : GL 0 m b [] := .of (by simp [clns]) (by simp [wts]) (by simp [dps])
theorem GL.one {n m b : Nat} {x : D} (g : Gd n m b x) : GL (n + 2) m b [x] := GL.cons g .nil
theorem GL.mem {n m b : Nat} : ∀ {xs : List D}, GL n m b xs → ∀ x ∈ xs, Gd n m b x
  | [], _, _, h => by cases h
  | y :: ys, g, x, h => by
    have c : cln b y = true ∧ clns b ys = true := by simpa [clns] using g.c
    have w := g.w; have d := g.d
    simp only [wts, dps] at w d
    rcases List.mem_cons.mp h with e | e
    · rw [e]; exact ⟨c.1, by omega, by omega⟩
    · exact (GL.of c.2 (by omega) (by omega) : GL n m b ys).mem x e
theorem GL.rev {n m b : Nat} : ∀ {xs : List D}, GL n m b xs → GL n m b xs.reverse := by
  have gen : ∀ xs : List D, clns b xs.reverse = clns b xs ∧ wts xs.reverse = wts xs ∧ dps xs.reverse = dps xs := by
    intro xs
    induction xs with
    | nil => exact ⟨rfl, rfl, rfl⟩
    | cons x xs ih =>
      rw [List.reverse_cons, clns_append, wts_append, dps_append, ih.1, ih.2.1, ih.2.2]
      refine ⟨?_, ?_, ?_⟩
      · simp [clns, Bool.and_comm]
      · simp [wts]; omega
      · simp [dps]; omega
  intro xs g
  obtain ⟨h1, h2, h3⟩ := gen xs
  exact .of (by rw [h1]; exact g.c) (by rw [h2]; exact g.w) (by rw [h3]; exact g.d)
theorem Gd.tup {n m b : Nat} {ds : List D} (g : Gd n m b (.tup ds)) : ∃ m', m = m' + 1 ∧ 3 ≤ n ∧ GL (n - 3) m' b ds := by
  have c := g.c; have w := g.w; have d := g.d
  simp only [cln, wt, dp] at c w d
  exact ⟨m - 1, by omega, by omega, .of c (by omega) (by omega)⟩
theorem GL.tup {n m b : Nat} {ds : List D} (g : GL n m b ds) : Gd (n + 3) (m + 1) b (.tup ds) := ⟨by simpa [cln] using g.c, by have := g.w; simp only [wt]; omega, by have := g.d; simp only [dp]; omega⟩
theorem GL.lst {n m b : Nat} {ds : List D} (g : GL n m b ds) : Gd (n + 3) (m + 1) b (.lst ds) := ⟨by simpa [cln] using g.c, by have := g.w; simp only [wt]; omega, by have := g.d; simp only [dp]; omega⟩
theorem Gd.int {m b : Nat} {i : Int} (h : i.natAbs < 2 ^ b) : Gd 2000 m b (.int i) := ⟨by simpa [cln] using h, Nat.le_refl _, Nat.zero_le _⟩
mutual
theorem cln_mono {b c : Nat} (h : b ≤ c) : ∀ d : D, cln b d = true → cln c d = true
  | .int i, e => by
    have e : i.natAbs < 2 ^ b := by simpa [cln] using e
    have := Nat.pow_le_pow_right (show 0 < 2 by decide) h
    simp only [cln, decide_eq_true_eq]; omega
  | .str _, _ => rfl
  | .non, _ => rfl
  | .bl _, _ => rfl
  | .tup ds, e => by simp only [cln] at e ⊢; exact clns_mono h ds e
  | .lst ds, e => by simp only [cln] at e ⊢; exact clns_mono h ds e
  | .dic _ _, e => by simp [cln] at e
  | .ref _, e => by simp [cln] at e
  | .ty _, e => by simp [cln] at e
theorem clns_mono {b c : Nat} (h : b ≤ c) : ∀ ds : List D, clns b ds = true → clns c ds = true
  | [], _ => rfl
  | d :: ds, e => by
    simp only [clns, Bool.and_eq_true] at e ⊢
    exact ⟨cln_mono h d e.1, clns_mono h ds e.2⟩
end
theorem Gd.up {n m b n' m' b' : Nat} {d : D} (g : Gd n m b d) (hn : n ≤ n') (hm : m ≤ m') (hb : b ≤ b') : Gd n' m' b' d := ⟨cln_mono hb d g.c, Nat.le_trans g.w hn, Nat.le_trans g.d hm⟩
theorem GL.up {n m b n' m' b' : Nat} {d : List D} (g : GL n m b d) (hn : n ≤ n') (hm : m ≤ m') (hb : b ≤ b') : GL n' m' b' d := .of (clns_mono hb d g.c) (Nat.le_trans g.w hn) (Nat.le_trans g.d hm)
/-- the text of an int -/
theorem Gd.num {m b : Nat} {i : Int} (h : i.natAbs.log2 < 1920) : Gd 20000 m b (.str (Str.ofString (toString i))) := by
  refine ⟨rfl, ?_, Nat.zero_le _⟩
  have l := PyProof.Rows.int_text_len_1921 h
  have : (reprText (Str.ofString (toString i))).length ≤ 10 * (Str.ofString (toString i)).length + 2 := StrLaws.reprText_len _ fun c hc => by
    rw [Str.ofString_eq_toList] at hc
    simp only [List.mem_map] at hc
    obtain ⟨ch, _, rfl⟩ := hc
    have := ch.valid
    have h2 : ch.toNat < 0x110000 := by
      rcases this with h | h
      · exact Nat.lt_trans h (by decide)
      · exact h.2
    exact Nat.lt_trans h2 (by decide)
  simp only [wt]
  omega
theorem Gd.mono {n m b n' m' b' : Nat} {d : D} (g : Gd n m b d) (hn : n ≤ n') (hm : m ≤ m') (hb : b = b') : Gd n' m' b' d := ⟨hb ▸ g.c, Nat.le_trans g.w hn, Nat.le_trans g.d hm⟩
end Kx
set_option maxHeartbeats 2000000
namespace Kx
open PySem PySem.Spec L2 DL
structure Gb (K : PySem.W.Frag) (mg : Str → Option Value) : Prop where
  ValueError_ : mg "ValueError" = none
  abs_ : mg "abs" = none
  all_ : mg "all" = none
  bool_ : mg "bool" = none
  dict_ : mg "dict" = none
  int_ : mg "int" = none
  isinstance_ : mg "isinstance" = none
  len_ : mg "len" = none
  list_ : mg "list" = none
  max_ : mg "max" = none
  min_ : mg "min" = none
  range_ : mg "range" = none
  repr_ : mg "repr" = none
  sorted_ : mg "sorted" = none
  str_ : mg "str" = none
  sum_ : mg "sum" = none
  tuple_ : mg "tuple" = none
  most : ∃ t, mg "MOST_STANDINGS" = some (.int 1000 t)
  letters : mg "LETTERS" = some (.ref (He.ga K "LETTERS"))
  let_ : ∀ H, SqT K H (He.ga K "LETTERS") ([1, -1, 2, -2].map V.int)
  gcd_ : mg "gcd" = some (.builtin "math.gcd")
  sys_ : sysB K = true
theorem sc_is_whole : FnScope ["thing"] ["thing"] (defScope s_is_whole) := ⟨rfl, rfl, rfl, by decide +kernel, rfl, by decide +kernel, by decide +kernel⟩
theorem sc_need_standings : FnScope ["thing"] ["thing"] (defScope s_need_standings) := ⟨rfl, rfl, rfl, by decide +kernel, rfl, by decide +kernel, by decide +kernel⟩
theorem sc_is_letters : FnScope ["thing", "letter"] ["thing"] (defScope s_is_letters) := ⟨rfl, rfl, rfl, by decide +kernel, rfl, by decide +kernel, by decide +kernel⟩
theorem sc_need_letters : FnScope ["thing"] ["thing"] (defScope s_need_letters) := ⟨rfl, rfl, rfl, by decide +kernel, rfl, by decide +kernel, by decide +kernel⟩
theorem sc_walked_lamps : FnScope ["p", "row", "letter", "room", "lamps", "place"] ["p", "row"] (defScope s_walked_lamps) := ⟨rfl, rfl, rfl, by decide +kernel, rfl, by decide +kernel, by decide +kernel⟩
theorem sc_lamps_added : FnScope ["p", "one", "other", "number", "found", "room"] ["p", "one", "other", "number"] (defScope s_lamps_added) := ⟨rfl, rfl, rfl, by decide +kernel, rfl, by decide +kernel, by decide +kernel⟩
theorem sc_lamps_moved : FnScope ["lamps", "by", "room"] ["lamps", "by"] (defScope s_lamps_moved) := ⟨rfl, rfl, rfl, by decide +kernel, rfl, by decide +kernel, by decide +kernel⟩
theorem sc_fold_of : FnScope ["p", "size", "lamps", "found", "room"] ["p", "size", "lamps"] (defScope s_fold_of) := ⟨rfl, rfl, rfl, by decide +kernel, rfl, by decide +kernel, by decide +kernel⟩
theorem sc_lamps_over : FnScope ["p", "lamps", "d", "found", "rooms", "room", "low", "high", "standing"] ["p", "lamps", "d"] (defScope s_lamps_over) := ⟨rfl, rfl, rfl, by decide +kernel, rfl, by decide +kernel, by decide +kernel⟩
theorem sc_turning_letters : FnScope ["p", "standing"] ["p", "standing"] (defScope s_turning_letters) := ⟨rfl, rfl, rfl, by decide +kernel, rfl, by decide +kernel, by decide +kernel⟩
theorem sc_best_way : FnScope ["end", "lamps", "down_first", "up_first", "first", "last", "least", "greatest"] ["end", "lamps"] (defScope s_best_way) := ⟨rfl, rfl, rfl, by decide +kernel, rfl, by decide +kernel, by decide +kernel⟩
theorem sc_shortest_letters : FnScope ["p", "end", "lamps", "letters", "goal", "room", "met", "step"] ["p", "end", "lamps"] (defScope s_shortest_letters) := ⟨rfl, rfl, rfl, by decide +kernel, rfl, by decide +kernel, by decide +kernel⟩
theorem sc_divided_lamps : FnScope ["p", "lamps", "n", "room", "found", "common", "standing"] ["p", "lamps", "n"] (defScope s_divided_lamps) := ⟨rfl, rfl, rfl, by decide +kernel, rfl, by decide +kernel, by decide +kernel⟩
theorem sc_lamp_part : FnScope ["p", "row", "n", "by", "missing", "end", "lamps", "part"] ["p", "row", "n"] (defScope s_lamp_part) := ⟨rfl, rfl, rfl, by decide +kernel, rfl, by decide +kernel, by decide +kernel⟩
theorem sc_law_deck : FnScope ["script", "number", "mixed", "cell"] ["script", "number"] (defScope s_law_deck) := ⟨rfl, rfl, rfl, by decide +kernel, rfl, by decide +kernel, by decide +kernel⟩
theorem sc_law_draw : FnScope ["deck", "many", "figure", "cell"] ["deck", "many"] (defScope s_law_draw) := ⟨rfl, rfl, rfl, by decide +kernel, rfl, by decide +kernel, by decide +kernel⟩
theorem sc_law_pick : FnScope ["deck", "some"] ["deck", "some"] (defScope s_law_pick) := ⟨rfl, rfl, rfl, by decide +kernel, rfl, by decide +kernel, by decide +kernel⟩
theorem sc_law_turned : FnScope ["deck", "thing", "at", "some", "one", "two", "rest"] ["deck", "thing"] (defScope s_law_turned) := ⟨rfl, rfl, rfl, by decide +kernel, rfl, by decide +kernel, by decide +kernel⟩
theorem sc_law_bent : FnScope ["deck", "thing", "at"] ["deck", "thing"] (defScope s_law_bent) := ⟨rfl, rfl, rfl, by decide +kernel, rfl, by decide +kernel, by decide +kernel⟩
theorem sc_law_common : FnScope ["n", "p", "turn"] ["n", "p"] (defScope s_law_common) := ⟨rfl, rfl, rfl, by decide +kernel, rfl, by decide +kernel, by decide +kernel⟩
theorem sc_law_fold : FnScope ["p", "form", "many", "j", "room", "standing"] ["p", "form"] (defScope s_law_fold) := ⟨rfl, rfl, rfl, by decide +kernel, rfl, by decide +kernel, by decide +kernel⟩
theorem sc_law_form : FnScope ["p", "row", "letter", "lamps", "room", "at"] ["p", "row"] (defScope s_law_form) := ⟨rfl, rfl, rfl, by decide +kernel, rfl, by decide +kernel, by decide +kernel⟩
theorem sc_law_has_lamp_part : FnScope ["p", "form", "n", "by", "fold", "room", "standing"] ["p", "form", "n"] (defScope s_law_has_lamp_part) := ⟨rfl, rfl, rfl, by decide +kernel, rfl, by decide +kernel, by decide +kernel⟩
theorem sc_law_is_integer : FnScope ["thing"] ["thing"] (defScope s_law_is_integer) := ⟨rfl, rfl, rfl, by decide +kernel, rfl, by decide +kernel, by decide +kernel⟩
theorem sc_law_lamps_times : FnScope ["p", "form", "n", "found", "turn", "end", "lamps", "rows", "room", "standing", "spot"] ["p", "form", "n"] (defScope s_law_lamps_times) := ⟨rfl, rfl, rfl, by decide +kernel, rfl, by decide +kernel, by decide +kernel⟩
theorem sc_law_is_lamp_part : FnScope ["p", "form", "n", "part"] ["p", "form", "n", "part"] (defScope s_law_is_lamp_part) := ⟨rfl, rfl, rfl, by decide +kernel, rfl, by decide +kernel, by decide +kernel⟩
theorem sc_law_is_lamp_row : FnScope ["thing", "it"] ["thing"] (defScope s_law_is_lamp_row) := ⟨rfl, rfl, rfl, by decide +kernel, rfl, by decide +kernel, by decide +kernel⟩
theorem sc_law_lamp_row : FnScope ["deck", "most", "row", "turn"] ["deck", "most"] (defScope s_law_lamp_row) := ⟨rfl, rfl, rfl, by decide +kernel, rfl, by decide +kernel, by decide +kernel⟩
theorem sc_law_lamps_tried : FnScope ["call", "told", "e", "words", "word", "is_it"] ["call"] (defScope s_law_lamps_tried) := ⟨rfl, rfl, rfl, by decide +kernel, rfl, by decide +kernel, by decide +kernel⟩
theorem sc_law_modulus : FnScope ["deck"] ["deck"] (defScope s_law_modulus) := ⟨rfl, rfl, rfl, by decide +kernel, rfl, by decide +kernel, by decide +kernel⟩
theorem sc_law_odd : FnScope ["deck", "some"] ["deck"] (defScope s_law_odd) := ⟨rfl, rfl, rfl, by decide +kernel, rfl, by decide +kernel, by decide +kernel⟩
theorem sc_law_odd_modulus : FnScope ["deck"] ["deck"] (defScope s_law_odd_modulus) := ⟨rfl, rfl, rfl, by decide +kernel, rfl, by decide +kernel, by decide +kernel⟩
theorem sc_law_undone : FnScope ["row", "step"] ["row"] (defScope s_law_undone) := ⟨rfl, rfl, rfl, by decide +kernel, rfl, by decide +kernel, by decide +kernel⟩
theorem sc_law_whole : FnScope ["deck", "p", "row", "at", "many", "way", "letter"] ["deck", "p"] (defScope s_law_whole) := ⟨rfl, rfl, rfl, by decide +kernel, rfl, by decide +kernel, by decide +kernel⟩
theorem sc_law_is_part_told : FnScope ["p", "row", "n", "part", "form"] ["p", "row", "n", "part"] (defScope s_law_is_part_told) := ⟨rfl, rfl, rfl, by decide +kernel, rfl, by decide +kernel, by decide +kernel⟩
theorem sc_law_is_refused : FnScope ["deck", "p", "row", "n", "number", "thing", "many", "is_n", "told", "is_p", "is_row", "due"] ["deck", "p", "row", "n"] (defScope s_law_is_refused) := ⟨rfl, rfl, rfl, by decide +kernel, rfl, by decide +kernel, by decide +kernel⟩
theorem sc_law : FnScope ["script", "deck", "turn", "p", "end", "some", "n", "row", "many", "part", "m", "small"] ["script"] (defScope s_law) := ⟨rfl, rfl, rfl, by decide +kernel, rfl, by decide +kernel, by decide +kernel⟩
/-! ### mirrors -/
def isInt : D → Bool
  | .int _ => true
  | _ => false
def isTup : D → Bool
  | .tup _ => true
  | _ => false
def okMod : D → Bool
  | .int i => decide (2 ≤ i) && decide (i ≤ 1000)
  | _ => false
def isLet : D → Bool
  | .int i => decide (i ∈ [1, -1, 2, -2])
  | _ => false
def isLets : D → Bool
  | .tup ds => ds.all isLet
  | _ => false
def inR (p : Int) : D → Bool
  | .int s => decide (1 ≤ s) && decide (s < p)
  | _ => false
def isLampD (p : Int) : D → Bool
  | .tup [a, b] => isInt a && (isInt b && inR p b)
  | _ => false
def fstI : D → Int
  | .tup (.int i :: _) => i
  | _ => 0
def incr (ls : List D) : Bool := (ls.zip (ls.drop 1)).all fun q => decide (fstI q.1 < fstI q.2)
def lampsD (p : Int) : D → Bool
  | .tup ls => ls.all (isLampD p)
  | _ => false
def incrD : D → Bool
  | .tup ls => incr ls
  | _ => false
def isFormD (p : Int) : D → Bool
  | .tup [a, b] => isInt a && (isTup b && (lampsD p b && incrD b))
  | _ => false
theorem lampD_shape {p : Int} {d : D} (h : isLampD p d = true) : ∃ i s, d = .tup [.int i, .int s] := by
  match d, h with
  | .tup [a, b], h =>
    have h : (isInt a && (isInt b && inR p b)) = true := h
    rw [Bool.and_eq_true, Bool.and_eq_true] at h
    cases a <;> first | cases h.1 | skip
    cases b <;> first | cases h.2.1 | skip
    exact ⟨_, _, rfl⟩
theorem two_or {xs : List D} : (∃ a b, xs = [a, b]) ∨ ((xs.length : Int) ≠ 2 ∧ (∀ p, isLampD p (.tup xs) = false) ∧ ∀ p, isFormD p (.tup xs) = false) := by
  match xs with
  | [] => exact .inr ⟨by simp, fun _ => rfl, fun _ => rfl⟩
  | [_] => exact .inr ⟨by simp, fun _ => rfl, fun _ => rfl⟩
  | [a, b] => exact .inl ⟨a, b, rfl⟩
  | _ :: _ :: _ :: r => exact .inr ⟨by simp; omega, fun _ => rfl, fun _ => rfl⟩
def spIsWhole : SpD := fun ds M k _ => ∃ d, ds = [d] ∧ gd d ∧ k (.bl (isInt d)) M
def spNeedSt (C : Addr) : SpD := fun ds M k e => ∃ d, ds = [d] ∧ gd d ∧ (okMod d = true → k .non M) ∧ (okMod d = false → e C [("thing", d)] M)
def spIsLets : SpD := fun ds M k _ => ∃ d, ds = [d] ∧ gd d ∧ k (.bl (isLets d)) M
def spNeedLets (C : Addr) : SpD := fun ds M k e => ∃ d, ds = [d] ∧ gd d ∧ (isLets d = true → k .non M) ∧ (isLets d = false → e C [("thing", d)] M)
def spIsLamp : SpD := fun ds M k _ => ∃ p d, ds = [.int p, d] ∧ gd d ∧ k (.bl (isLampD p d)) M
def spIsForm : SpD := fun ds M k _ => ∃ p d, ds = [.int p, d] ∧ gd d ∧ k (.bl (isFormD p d)) M
section
variable {P : Program} {w : World} {K : PySem.W.Frag} {mg : Str → Option Value} {base : Heap} {W : Wd}
theorem ok_is_whole (Df : DefAt K mg "is_whole" s_is_whole ["thing"]) (g : Gb K mg) (hW : W.K = K) : CalD P w K mg base W 1 "is_whole" ["thing"] spIsWhole :=
  okC Df sc_is_whole (fun ds M k e ⟨d, h, _⟩ => by rw [h]; rfl) fun f cdv A outer s H E F0 ds M kk e hr ⟨d, hd, ht, hk⟩ => by
    subst hd
    refine ⟨_, (psd_one (psd_ret (pd_and (pd_callB cd_isi rfl g.isinstance_ PyProof.Rows.Boot.«isinstance» (pda_cons (pd_var 0) (pda_cons (pd_ty rfl g.int_ PyProof.Rows.Boot.«int») pda_nil))) (pd_one (pd_not (pd_callB cd_isi rfl g.isinstance_ PyProof.Rows.Boot.«isinstance» (pda_cons (pd_var 0) (pda_cons (pd_ty rfl g.bool_ PyProof.Rows.Boot.«bool») pda_nil)))))))), ?_⟩
    cases d <;> first | exact hk | exact ht.elim
theorem ok_need_standings {C : Addr} (Df : DefAt K mg "need_standings" s_need_standings ["thing"]) (g : Gb K mg) (hW : W.K = K) (c_is_whole : CalD P w K mg base W 1 "is_whole" ["thing"] spIsWhole) (x_BadNumber : MkX P w K mg base 1 "BadNumber" C "thing") : CalDX P w K mg base W 4 "need_standings" ["thing"] (spNeedSt C) :=
  okCX Df sc_need_standings (fun ds M k e ⟨d, h, _⟩ => by rw [h]; rfl) fun f cdv A outer s H E F0 ds M kk e hr hR ⟨d, hd, ht, h1, h2⟩ => by
    subst hd
    refine ⟨_, (psd_one (psd_if (ptd_or (ptd_not (ptd_val (pd_cal c_is_whole (hr.mono (by decide)) (pda_cons (pd_var 0) pda_nil)))) (pwd_or1 (ptd_not (ptd_chain od_le od_le pd_int (pd_var 0) (pd_globI rfl g.most))))) (psd_one (psd_raiseC rfl hR x_BadNumber (hr.mono (by decide)) (pd_var 0))) psd_nil)), ?_⟩
    refine rd_if0 (!okMod d) ?_ ?_ ?_
    · intro k hk
      have e1 : (!okMod d) = ((!isInt d) || !okMod d) := by cases d <;> rfl
      rw [e1] at hk
      refine rd_or _ _ (fun k hk => ⟨d, rfl, ht, hk⟩) (fun hi k hk => ?_) k hk
      cases d with
      | int i =>
        exact rd_not (okMod (.int i)) (fun k hk => rd_chainI 2 i 1000 (fun k h => h) (fun k h => h) (fun k h => h) _ hk) k hk
      | _ => cases hi
    · intro hb
      exact h2 (by simpa using hb)
    · intro hb
      exact h1 (by simpa using hb)
theorem ok_is_letters_ (Df : DefAt K mg "is_letters" s_is_letters ["thing"]) (g : Gb K mg) (hW : W.K = K) (c_is_whole : CalD P w K mg base W 1 "is_whole" ["thing"] spIsWhole) : CalD P w K mg base W 2 "is_letters" ["thing"] spIsLets :=
  okC Df sc_is_letters (fun ds M k e ⟨d, h, _⟩ => by rw [h]; rfl) fun f cdv A outer s H E F0 ds M kk e hr ⟨d, hd, ht, hk⟩ => by
    subst hd
    refine ⟨_, (psd_one (psd_ret (pd_and (pd_callB cd_isi rfl g.isinstance_ PyProof.Rows.Boot.«isinstance» (pda_cons (pd_var 0) (pda_cons (pd_ty rfl g.tuple_ PyProof.Rows.Boot.«tuple») pda_nil))) (pd_one (pd_callB (cd_all rfl) rfl g.all_ PyProof.Rows.Boot.«all» (pda_cons (pd_lc (own := [("letter", 1)]) rfl sc_is_letters.nd (pid_tup hW.symm (pd_var 0)) (blkOk_by (by first | kernel_rfl | rfl)) (sim_name (i := 1) (by decide)) (fun _ _ _ _ _ => pg_name (i := 1) sc_is_letters.nd rfl (by first | exact Or.inl rfl | exact Or.inr rfl)) (fun _ _ _ _ _ => ptsd_nil) (fun _ _ _ _ _ => (pd_and (pd_cal c_is_whole (hr.mono (by decide)) (pda_cons (pd_var 1) pda_nil)) (pd_one (pd_cmp (od_inK g.let_) (pd_var 1) (pd_globR rfl g.letters) (by rfl)))))) pda_nil)))))), ?_⟩
    have e1 : isLets d = (isTup d && isLets d) := by cases d <;> rfl
    rw [e1] at hk
    refine rd_andV _ _ (fun k hk => ?_) (fun hi k hk => ?_) kk hk
    · cases d <;> first | exact hk | exact ht.elim
    · cases d with
      | tup xs =>
        obtain ⟨hl, hxs⟩ := gd_tup ht
        intro p hp
        refine lc_map (fun d => .bl (isLet d)) hp hl (fun d hd Mx sM kx hx => ?_) ⟨hp, ?_⟩
        · refine el_yes (rd_andV (isInt d) (isLet d) (fun k hk => ⟨d, rfl, hxs d hd, hk⟩) (fun hi k hk => ?_) _ ?_)
          · cases d with
            | int i => exact ⟨rfl, hk⟩
            | _ => cases hi
          · have e2 : (isInt d && isLet d) = isLet d := by cases d <;> rfl
            rw [e2]; exact hx
        · exact rd_all (f := isLet) hk
      | _ => cases hi
theorem ok_need_letters {C : Addr} (Df : DefAt K mg "need_letters" s_need_letters ["thing"]) (g : Gb K mg) (hW : W.K = K) (c_is_letters : CalD P w K mg base W 2 "is_letters" ["thing"] spIsLets) (x_BadLetters : MkX P w K mg base 1 "BadLetters" C "thing") : CalDX P w K mg base W 4 "need_letters" ["thing"] (spNeedLets C) :=
  okCX Df sc_need_letters (fun ds M k e ⟨d, h, _⟩ => by rw [h]; rfl) fun f cdv A outer s H E F0 ds M kk e hr hR ⟨d, hd, ht, h1, h2⟩ => by
    subst hd
    refine ⟨_, (psd_one (psd_if (ptd_not (ptd_val (pd_cal c_is_letters (hr.mono (by decide)) (pda_cons (pd_var 0) pda_nil)))) (psd_one (psd_raiseC rfl hR x_BadLetters (hr.mono (by decide)) (pd_var 0))) psd_nil)), ?_⟩
    refine rd_if0 (!isLets d) ?_ ?_ ?_
    · exact fun k hk => rd_not (isLets d) (fun k hk => ⟨d, rfl, ht, hk⟩) k hk
    · intro hb
      exact h2 (by simpa using hb)
    · intro hb
      exact h1 (by simpa using hb)
/-- is_form(p, thing): p any value -/
def spIsFormP (C : Addr) : SpD := fun ds M k e => ∃ p d, ds = [p, d] ∧ gd p ∧ gd d ∧ (∀ i, p = .int i → okMod p = true → k (.bl (isFormD i d)) M) ∧ (okMod p = false → e C [("thing", p)] M)
theorem okMod_int {d : D} (h : okMod d = true) : ∃ i, d = .int i ∧ 2 ≤ i ∧ i ≤ 1000 := by
  cases d with
  | int i =>
    have h : (decide (2 ≤ i) && decide (i ≤ 1000)) = true := h
    simp at h
    exact ⟨i, rfl, h.1, h.2⟩
  | _ => cases h
/-! ### lamps -/
def lampsOf (L : DI) : D := .tup ((sortU (L.map (·.1))).map fun r => .tup [.int r, .int (getI L r)])
def spLampsT : SpD := fun ds M k _ => ∃ a L, ds = [.ref a] ∧ M a = some (.dic (kvsOf L)) ∧ (L.map (·.1)).Nodup ∧ L.length < 64 ∧ k (lampsOf L) M
/-! ### the walk -/
def stepW (p : Int) (s : Int × DI) (l : Int) : Int × DI := if l = 1 ∨ l = -1 then (s.1 + l, s.2) else (s.1, putI s.2 s.1 ((getI s.2 s.1 + l / 2) % p))
def walkW (p : Int) (ls : List Int) : Int × DI := ls.foldl (stepW p) (0, [])
def nz (L : DI) : DI := L.filter fun q => decide (q.2 ≠ 0)
def spWalked : SpD := fun ds M k _ => ∃ p ls, ds = [.int p, .tup (ls.map D.int)] ∧ 0 < p ∧ ls.length ≤ 1000 ∧ ∀ a, M a = none → k (.tup [.int (walkW p ls).1, .ref a]) (updM M a (.dic (kvsOf (nz (walkW p ls).2))))
theorem step_ok {p : Int} {s : Int × DI} {l : Int} (h : (s.2.map (·.1)).Nodup) : ((stepW p s l).2.map (·.1)).Nodup ∧ (stepW p s l).2.length ≤ s.2.length + 1 := by
  unfold stepW
  split
  · exact ⟨h, Nat.le_succ _⟩
  · exact ⟨nodup_put h, len_put _ _ _⟩
theorem rd_var {i : Nat} {x : D} {δ : Sl} {M : Sto} {k : DKt} (e : δ[i]? = some (some x)) (h : k x M) : dVar i δ M k := by
  unfold dVar; rw [e]; exact h
theorem rd_op {r : R2D} {ta tb : TED} {x y : D} {δ : Sl} {M : Sto} (k : DKt) (h1 : ∀ k : DKt, k x M → ta δ M k) (h2 : ∀ k : DKt, k y M → tb δ M k) (h : r x y M k) : dOp r ta tb δ M k := h1 _ (h2 _ h)
theorem rd_dget2 {td ty tx : TED} {δ : Sl} {M : Sto} {L : DI} {j : Int} {a : Addr} (h1 : ∀ k : DKt, k (.ref a) M → td δ M k) (h2 : ∀ k : DKt, k (.int j) M → ty δ M k) (h3 : ∀ k : DKt, k (.int 0) M → tx δ M k) (hM : M a = some (.dic (kvsOf L))) (k : DKt) (hk : k (.int (getI L j)) M) : dDGet2 td ty tx δ M k := by
  have e : dicOf M (.ref a) = some (kvsOf L) := by unfold dicOf; simp only [hM]
  refine h1 _ ⟨by rw [e]; rfl, h2 _ (h3 _ ?_)⟩
  simp only [e]
  show k ((lookD (kvsOf L) (.inl j)).getD (.int 0)) M
  rw [kvs_get]; exact hk
theorem unzip_zip (L : List (Key × D)) : (L.map (·.1)).zip (L.map (·.2)) = L := by
  induction L with
  | nil => rfl
  | cons q r ih => exact congrArg (q :: ·) ih
theorem rd_dgetF {td ty : TED} {δ : Sl} {M : Sto} {L : DI} {j : Int} (h1 : ∀ k : DKt, k (.dic ((kvsOf L).map (·.1)) ((kvsOf L).map (·.2))) M → td δ M k) (h2 : ∀ k : DKt, k (.int j) M → ty δ M k) (hj : j ∈ L.map (·.1)) (k : DKt) (hk : k (.int (getI L j)) M) : dDGet td ty δ M k := by
  refine h1 _ (h2 _ ?_)
  have e : dicOf M (.dic ((kvsOf L).map (·.1)) ((kvsOf L).map (·.2))) = some (kvsOf L) := by
    unfold dicOf
    show (if ((kvsOf L).map (·.1)).length = ((kvsOf L).map (·.2)).length then some (((kvsOf L).map (·.1)).zip ((kvsOf L).map (·.2))) else none) = _
    rw [if_pos (by simp), unzip_zip]
  rw [e]
  show (match lookD (kvsOf L) (.inl j) with | some d => k d M | none => False)
  rw [kvs_at hj]; exact hk
theorem getI_mem {L : DI} : ∀ (_ : (L.map (·.1)).Nodup) {q : Int × Int}, q ∈ L → getI L q.1 = q.2 := by
  induction L with
  | nil => intro _ q h; cases h
  | cons r L ih =>
    intro hn q hq
    obtain ⟨n1, n2⟩ := List.nodup_cons.mp hn
    unfold getI at ih ⊢
    rw [List.find?_cons]
    rcases List.mem_cons.mp hq with e | hm
    · subst e
      simp
    · have hne : ¬ r.1 = q.1 := fun e => n1 (by show r.1 ∈ _; rw [e]; exact List.mem_map.mpr ⟨q, hm, rfl⟩)
      rw [decide_eq_false hne]
      exact ih n2 hm
theorem fold_put : ∀ (R acc : DI), ((acc ++ R).map (·.1)).Nodup → (kvsOf R).foldl (fun acc kv => putD acc kv.1 kv.2) (kvsOf acc) = kvsOf (acc ++ R)
  | [], acc, _ => by rw [List.append_nil]; rfl
  | q :: R, acc, h => by
    show (kvsOf R).foldl _ (putD (kvsOf acc) (.inl q.1) (.int q.2)) = _
    have hq : ¬ q.1 ∈ acc.map (·.1) := by
      rw [List.map_append, List.map_cons, List.nodup_append] at h
      intro z
      exact h.2.2 _ z _ List.mem_cons_self rfl
    have e : putI acc q.1 q.2 = acc ++ [q] := by
      unfold putI
      rw [if_neg]
      intro z
      obtain ⟨r, hr, er⟩ := List.any_eq_true.mp z
      exact hq (List.mem_map.mpr ⟨r, hr, by simpa using er⟩)
    have e2 : acc ++ q :: R = (acc ++ [q]) ++ R := by simp
    rw [kvs_put, e, e2]
    exact fold_put R (acc ++ [q]) (by rw [← e2]; exact h)
def foNz (L : DI) : D → Option (Key × D)
  | .int j => if getI L j = 0 then none else some (.inl j, .int (getI L j))
  | _ => none
theorem nz_eq {L : DI} (hn : (L.map (·.1)).Nodup) : (((kvsOf L).map (·.1)).map keyOfK).filterMap (foNz L) = kvsOf (nz L) := by
  have gen : ∀ R : DI, (∀ q ∈ R, q ∈ L) → (((kvsOf R).map (·.1)).map keyOfK).filterMap (foNz L) = kvsOf (nz R) := by
    intro R
    induction R with
    | nil => intro _; rfl
    | cons q R ih =>
      intro h
      have g := getI_mem hn (h q List.mem_cons_self)
      have ih := ih fun x hx => h x (List.mem_cons_of_mem _ hx)
      show ((D.int q.1) :: (((kvsOf R).map (·.1)).map keyOfK)).filterMap (foNz L) = _
      rw [List.filterMap_cons]
      unfold nz
      by_cases hz : q.2 = 0
      · rw [show foNz L (D.int q.1) = none from if_pos (by rw [g]; exact hz), List.filter_cons, if_neg (by simp [hz])]
        exact ih
      · rw [show foNz L (D.int q.1) = some (.inl q.1, .int (getI L q.1)) from if_neg (by rw [g]; exact hz), List.filter_cons, if_pos (by simp [hz]), g]
        exact congrArg (_ :: ·) ih
  exact gen L fun _ h => h
theorem nodup_nz {L : DI} (hn : (L.map (·.1)).Nodup) : ((nz L).map (·.1)).Nodup := hn.sublist (List.filter_sublist.map _)
theorem rd_dput {td ty tv : TED} {d : EndD} {δ : Sl} {M : Sto} {L : DI} {j v : Int} {a : Addr} (h0 : ∀ k : DKt, k (.int v) M → tv δ M k) (h1 : ∀ k : DKt, k (.ref a) M → td δ M k) (h2 : ∀ k : DKt, k (.int j) M → ty δ M k) (hM : M a = some (.dic (kvsOf L))) (hl : L.length < sizeLine) (h : d.nx δ (updM M a (.dic (kvsOf (putI L j v))))) : dDPut td ty tv d δ M := by
  refine h0 _ (h1 _ (h2 _ ?_))
  simp only [keyD, hM]
  exact ⟨by unfold kvsOf; rw [List.length_map]; exact hl, by rw [kvs_put]; exact h⟩
theorem walk_ok (p : Int) (ls : List Int) : ((walkW p ls).2.map (·.1)).Nodup ∧ (walkW p ls).2.length ≤ ls.length := by
  have gen : ∀ (ls : List Int) (s : Int × DI), (s.2.map (·.1)).Nodup → ((ls.foldl (stepW p) s).2.map (·.1)).Nodup ∧ (ls.foldl (stepW p) s).2.length ≤ s.2.length + ls.length := by
    intro ls
    induction ls with
    | nil => intro s h; exact ⟨h, Nat.le_refl _⟩
    | cons l ls ih =>
      intro s h
      obtain ⟨h1, h2⟩ := step_ok (p := p) (l := l) h
      obtain ⟨h3, h4⟩ := ih _ h1
      exact ⟨h3, by simp at h4 ⊢; omega⟩
  have := gen ls (0, []) .nil
  exact ⟨this.1, by have := this.2; simpa [walkW] using this⟩
theorem rd_tgt2 {i j : Nat} {x y : D} {δ : Sl} {M : Sto} {k : Sl → Sto → Prop} (h : k ((δ.set i (some x)).set j (some y)) M) : gCnD (gNm i) (gCnD (gNm j) gNlD) [x, y] δ M k := h
theorem ok_walked_lamps (Df : DefAt K mg "walked_lamps" s_walked_lamps ["p", "row"]) (g : Gb K mg) (hW : W.K = K) : CalD P w K mg base W 1 "walked_lamps" ["p", "row"] spWalked :=
  okC Df sc_walked_lamps (fun ds M k e ⟨p, ls, h, _⟩ => by rw [h]; rfl) fun f cdv A outer s H E F0 ds M kk e hr ⟨p, ls, hd, hp, hl, hk⟩ => by
    subst hd
    refine ⟨_, (psd_cons (psd_asg (pd_tup (pda_cons pd_int (pda_cons pd_dnew pda_nil))) (pgd_tup rfl (pgsd_cons (pgd_name 3 sc_walked_lamps.nd) (pgsd_cons (pgd_name 4 sc_walked_lamps.nd) pgsd_nil)))) (psd_cons (psd_for PassesOwn.never rfl (pid_tup hW.symm (pd_var 1)) (pgd_name 2 sc_walked_lamps.nd) (psd_one (psd_if (ptd_cmp (od_in false) (pd_var 2) (pd_tup (pda_cons pd_int (pda_cons (pd_un ud_neg pd_int) pda_nil))) (by with_unfolding_all rfl)) (psd_one (psd_aug 3 sc_walked_lamps.nd (pd_var 2) ip_addD)) (psd_one (psd_dput (hu1 hr) (pd_var 4) (pd_var 3) (pd_op od_mod (pd_op od_add (pd_dget2 (hu1 hr) (pd_var 4) (pd_var 3) pd_int) (pd_op od_div (pd_var 2) pd_int)) (pd_var 0))))))) (psd_one (psd_frz 4 (psd_ret (pd_tup (pda_cons (pd_var 3) (pda_cons (pd_dc (own := [("place", 5)]) rfl sc_walked_lamps.nd (pid_keys (pd_var 4)) (blkOk_by (by first | kernel_rfl | rfl)) (sim_name (i := 5) (by decide)) (fun _ _ _ _ _ => pg_name (i := 5) sc_walked_lamps.nd rfl (by first | exact Or.inl rfl | exact Or.inr rfl)) (fun _ _ _ _ _ => ptsd_one (ptd_cmp (od_ne hr.units0) (pd_dget (hu1 hr) (pd_var 4) (pd_var 5)) pd_int (nomark _))) (fun _ _ _ _ _ => (pd_var 5)) (fun _ _ _ _ _ => (pd_dget (hu1 hr) (pd_var 4) (pd_var 5)))) pda_nil)))))))), ?_⟩
    intro a ha
    refine ⟨by rw [sizeLine_eq]; simp, rfl, rd_tgt2 ?_⟩
    dsimp only
    refine rd_for (ds := ls.map D.int) (M1 := updM M a (.dic [])) (fun r δ M' => ∃ (rs : List Int) (s : Int × DI) (x : Option D), r = rs.map D.int ∧ δ = [some (.int p), some (.tup (ls.map D.int)), x, some (.int s.1), some (.ref a), none] ∧ M' = updM M a (.dic (kvsOf s.2)) ∧
      rs.foldl (stepW p) s = walkW p ls ∧ (s.2.map (·.1)).Nodup ∧ s.2.length + rs.length ≤ 1000) (fun k hk => ?_) ?_ ?_ ?_
    · exact hk
    · exact ⟨ls, (0, []), none, rfl, rfl, rfl, rfl, .nil, by simpa using hl⟩
    · rintro x r δ M' K' ⟨rs, s, y, hr1, rfl, rfl, hf, hn, hln⟩ hK
      cases rs with
      | nil => cases hr1
      | cons l rs =>
        obtain ⟨rfl, rfl⟩ := List.cons.inj hr1
        obtain ⟨hn2, hl2⟩ := step_ok (p := p) (l := l) hn
        refine rd_if (decide (l ∈ [1, -1])) (fun k hk => ?_) (fun hb => ?_) fun hb => ?_
        · exact ⟨by rw [sizeLine_eq]; simp, hk⟩
        · have hb2 : l = 1 ∨ l = -1 := by simpa using hb
          have es : stepW p s l = (s.1 + l, s.2) := if_pos hb2
          refine hK _ _ ⟨rs, stepW p s l, some (.int l), rfl, ?_, ?_, hf, hn2, by simp at hln ⊢; omega⟩
          · rw [es]; rfl
          · rw [es]
        · have hb2 : ¬ (l = 1 ∨ l = -1) := by simpa using hb
          have es : stepW p s l = (s.1, putI s.2 s.1 ((getI s.2 s.1 + l / 2) % p)) := if_neg hb2
          refine rd_dput (a := a) (L := s.2) (j := s.1) (v := (getI s.2 s.1 + l / 2) % p) (fun k hk => ?_) (fun k hk => hk) (fun k hk => hk) updM_same ?_ ?_
          · exact rd_op (x := .int (getI s.2 s.1 + l / 2)) (y := .int p) _ (fun k hk => rd_op (x := .int (getI s.2 s.1)) (y := .int (l / 2)) _ (fun k hk => rd_dget2 (a := a) (L := s.2) (j := s.1) (fun k hk => hk) (fun k hk => hk) (fun k hk => hk) updM_same _ hk) (fun k hk => ⟨⟨by decide, by decide⟩, hk⟩) hk) (fun k hk => hk) ⟨hp, hk⟩
          · rw [sizeLine_eq]; simp at hln; omega
          · rw [updM_upd]
            refine hK _ _ ⟨rs, stepW p s l, some (.int l), rfl, ?_, ?_, hf, hn2, by simp at hln ⊢; omega⟩
            · rw [es]; rfl
            · rw [es]
    · rintro δ M' ⟨rs, s, y, hr1, rfl, rfl, hf, hn, hln⟩
      cases rs with
      | cons _ _ => cases hr1
      | nil =>
        have hs : s = walkW p ls := hf
        subst hs
        have frz : ∀ {tb : TSD} {d : EndD} {δ : Sl} {M1 : Sto} {kvs : List (Key × D)}, δ[4]? = some (some (.ref a)) → M1 a = some (.dic kvs) → tb d (δ.set 4 (some (.dic (kvs.map (·.1)) (kvs.map (·.2))))) (delM M1 a) → sFrz 4 tb d δ M1 := by
          intro tb d δ M1 kvs e1 e2 h
          unfold sFrz
          simp only [e1, e2]; exact h
        refine frz rfl updM_same ?_
        rw [updM_del ha]
        intro b hb
        refine dc_pure (foNz (walkW p ls).2) hb _ [] (by rw [sizeLine_eq]; simp [kvsOf] at hln ⊢; omega) (fun d hd Mx sM kx hx => ?_) ?_ putD_len
        · obtain ⟨kk2, hk2, rfl⟩ := List.mem_map.mp hd
          obtain ⟨kv, hkv, rfl⟩ := List.mem_map.mp hk2
          obtain ⟨q, hq, rfl⟩ := List.mem_map.mp hkv
          have hm : q.1 ∈ (walkW p ls).2.map (·.1) := List.mem_map.mpr ⟨q, hq, rfl⟩
          have hx : kx (if getI (walkW p ls).2 q.1 = 0 then none else some (.inl q.1, .int (getI (walkW p ls).2 q.1))) Mx := hx
          refine elk_if (kk := .inl 0) (z := .non) (!decide (getI (walkW p ls).2 q.1 = 0)) (fun k hk => ?_) (fun hb => ?_) fun hb => ?_
          · exact rd_dgetF (L := (walkW p ls).2) (j := q.1) (fun k hk => hk) (fun k hk => hk) hm _ hk
          · rw [if_neg (by simpa using hb)] at hx
            refine rd_var (x := .int q.1) rfl ?_
            refine rd_dgetF (L := (walkW p ls).2) (j := q.1) (fun k hk => hk) (fun k hk => hk) hm _ ?_
            exact hx
          · rw [if_pos (by simpa using hb)] at hx
            exact hx
        · rw [nz_eq hn]
          have e := fold_put (nz (walkW p ls).2) [] (nodup_nz hn)
          rw [show (kvsOf [] : List (Key × D)) = [] from rfl] at e
          rw [e]
          exact ⟨hb, by rw [sizeLine_eq]; simp, hk b hb⟩
/-! ### form_of -/
theorem isLets_ints {d : D} (h : isLets d = true) : ∃ ls : List Int, d = .tup (ls.map D.int) := by
  cases d with
  | tup ds =>
    have h : ds.all isLet = true := h
    have gen : ∀ ds : List D, ds.all isLet = true → ∃ ls : List Int, ds = ls.map D.int := by
      intro ds
      induction ds with
      | nil => intro _; exact ⟨[], rfl⟩
      | cons x ds ih =>
        intro h
        rw [List.all_cons, Bool.and_eq_true] at h
        obtain ⟨ls, rfl⟩ := ih h.2
        cases x with
        | int i => exact ⟨i :: ls, rfl⟩
        | _ => cases h.1
    obtain ⟨ls, e⟩ := gen ds h
    exact ⟨ls, by rw [e]⟩
  | _ => cases h
def spFormOf (C1 C2 : Addr) : SpD := fun ds M k e => ∃ p d, ds = [p, d] ∧ gd p ∧ gd d ∧ (∀ i ls, p = .int i → okMod p = true → d = .tup (ls.map D.int) → isLets d = true → ls.length ≤ 60 ∧ k (.tup [.int (walkW i ls).1, lampsOf (nz (walkW i ls).2)]) M) ∧
  (okMod p = true → isLets d = false → e C2 [("thing", d)] M) ∧ (okMod p = false → e C1 [("thing", p)] M)
end
end Kx
set_option maxHeartbeats 2000000
namespace Kx
open PySem PySem.Spec L2 DL
/-! ### the deck -/
theorem rd_join {t u : TSD} {d : EndD} {δ : Sl} {M : Sto} (Inv : Sl → Sto → Prop) (tail : ∀ δ' M', Inv δ' M' → u d δ' M') (h : (∀ δ' M', Inv δ' M' → u d δ' M') → t { d with nx := u d } δ M) : dSeq t u d δ M := h tail
theorem rd_set {i : Nat} {te : TED} {x : D} {d : EndD} {δ : Sl} {M : Sto} (h : ∀ k : DKt, k x M → te δ M k) (hn : d.nx (δ.set i (some x)) M) : dSet i te d δ M := h _ hn
theorem rd_seqx {i : Nat} {te : TED} {u : TSD} {x : D} {d : EndD} {δ : Sl} {M : Sto} (h : ∀ k : DKt, k x M → te δ M k) (hn : u d (δ.set i (some x)) M) : dSeq (dSet i te) u d δ M := h _ hn
theorem rd_dget {td ty : TED} {δ : Sl} {M : Sto} {kvs : List (Key × D)} {y v : D} {kk : Key} {a : Addr} (h1 : ∀ k : DKt, k (.ref a) M → td δ M k) (h2 : ∀ k : DKt, k y M → ty δ M k) (hy : keyD y = some kk) (hM : M a = some (.dic kvs)) (hv : lookD kvs kk = some v) (k : DKt) (hk : k v M) : dDGet td ty δ M k := by
  refine h1 _ (h2 _ ?_)
  have e : dicOf M (.ref a) = some kvs := by unfold dicOf; simp only [hM]
  rw [e, hy]
  show (match lookD kvs kk with | some d => k d M | none => False)
  rw [hv]; exact hk
theorem rd_dput0 {td ty tv : TED} {u : TSD} {d : EndD} {δ : Sl} {M : Sto} {L : List (Key × D)} {y v : D} {kk : Key} {a : Addr} (h0 : ∀ k : DKt, k v M → tv δ M k) (h1 : ∀ k : DKt, k (.ref a) M → td δ M k) (h2 : ∀ k : DKt, k y M → ty δ M k) (hy : keyD y = some kk) (hM : M a = some (.dic L)) (hl : L.length < sizeLine) (h : u d δ (updM M a (.dic (putD L kk v)))) : dSeq (dDPut td ty tv) u d δ M := by
  refine h0 _ (h1 _ (h2 _ ?_))
  simp only [hy, hM]
  exact ⟨hl, h⟩
theorem rd_pop {td : TED} {i : Nat} {u : TSD} {d : EndD} {δ : Sl} {M : Sto} {ds : List D} {x : D} {a : Addr} (h1 : ∀ k : DKt, k (.ref a) M → td δ M k) (hM : M a = some (.lst (ds ++ [x]))) (h : u d (δ.set i (some x)) (updM M a (.lst ds))) : dSeq (dSet i (dPop td)) u d δ M := by
  refine h1 _ ?_
  simp only [hM, List.getLast?_concat, List.dropLast_concat]
  exact h
theorem rd_app {td te : TED} {u : TSD} {d : EndD} {δ : Sl} {M : Sto} {ds : List D} {x : D} {a : Addr} (h1 : ∀ k : DKt, k (.ref a) M → td δ M k) (hM : M a = some (.lst ds)) (h2 : ∀ k : DKt, k x M → te δ M k) (hl : ds.length < sizeLine) (h : u d δ (updM M a (.lst (ds ++ [x])))) : dSeq (dDrop (dAppend td te)) u d δ M := by
  refine h1 _ ⟨by unfold lstOf; simp only [hM]; rfl, h2 _ ?_⟩
  unfold appK
  simp only [hM]
  exact ⟨hl, h⟩
def WL : List Str := [("row" : Str), "", "part"]
def DK : Dk := ⟨"left", "mixed", "draws", [(.inr "words", .lst (WL.map D.str))]⟩
theorem rd_addI {ta tb : TED} {δ : Sl} {M : Sto} (a b : Int) (h1 : ∀ k : DKt, k (.int a) M → ta δ M k) (h2 : ∀ k : DKt, k (.int b) M → tb δ M k) (k : DKt) (hk : k (.int (a + b)) M) : dOp DL.rAdd ta tb δ M k := h1 _ (h2 _ hk)
theorem rd_mulI {ta tb : TED} {δ : Sl} {M : Sto} (a b : Int) (h1 : ∀ k : DKt, k (.int a) M → ta δ M k) (h2 : ∀ k : DKt, k (.int b) M → tb δ M k) (ok : MulOk a b) (k : DKt) (hk : k (.int (a * b)) M) : dOp rMul ta tb δ M k := h1 _ (h2 _ ⟨ok, hk⟩)
theorem rd_modI {ta tb : TED} {δ : Sl} {M : Sto} (a b : Int) (h1 : ∀ k : DKt, k (.int a) M → ta δ M k) (h2 : ∀ k : DKt, k (.int b) M → tb δ M k) (ok : 0 < b) (k : DKt) (hk : k (.int (a % b)) M) : dOp rMod ta tb δ M k := h1 _ (h2 _ ⟨ok, hk⟩)
theorem rd_divI {ta tb : TED} {δ : Sl} {M : Sto} (a b : Int) (h1 : ∀ k : DKt, k (.int a) M → ta δ M k) (h2 : ∀ k : DKt, k (.int b) M → tb δ M k) (ok : CDivW a b) (k : DKt) (hk : k (.int (a / b)) M) : dOp rDiv ta tb δ M k := h1 _ (h2 _ ⟨ok, hk⟩)
theorem rd_intI {te : TED} {δ : Sl} {M : Sto} (a : Int) (h1 : ∀ k : DKt, k (.int a) M → te δ M k) (k : DKt) (hk : k (.int a) M) : dCB rInt (dCons te dNil) δ M k := h1 _ hk
section
variable {P : Program} {w : World} {K : PySem.W.Frag} {mg : Str → Option Value} {base : Heap} {W : Wd}
theorem mulW {a b : Int} (h0 : 0 ≤ a) (h : a < 2 ^ 64) : MulOk a b := .inl (.inl ⟨by omega, h⟩)
theorem mulV {a b : Int} (h0 : 0 ≤ b) (h : b < 2 ^ 64) : MulOk a b := .inl (.inr ⟨by omega, h⟩)
theorem ok_law_draw (Df : DefAt K mg "_law_draw" s_law_draw ["deck", "many"]) (g : Gb K mg) (hW : W.K = K) : CalD P w K mg base W 1 "_law_draw" ["deck", "many"] (spDraw DK) := by
  have h : CalD P w K mg base W 1 "_law_draw" ["deck", "many"] (spDrawO DK) :=
    okC Df sc_law_draw (fun ds M k e ⟨_, _, _, _, _, _, _, h, _⟩ => by rw [h]; rfl) fun f cdv A outer s H E F0 ds M kk e hr ⟨a, l, cells, m, n, b, M0, hd, nal, hM, hc, hb1, hb2, hk⟩ => by
      subst hd
      subst hM
      refine ⟨_, (psd_cons (psd_dput (hu1 hr) (pd_var 0) pd_str (pd_op od_add (pd_dget (hu1 hr) (pd_var 0) pd_str) pd_int)) (psd_cons (psd_set 2 sc_law_draw.nd (pd_op od_add (pd_dget (hu1 hr) (pd_var 0) pd_str) (pd_op od_mul pd_int (pd_dget (hu1 hr) (pd_var 0) pd_str)))) (psd_cons (psd_if (ptd_cmp (od_neL hr.units0) (pd_dget (hu1 hr) (pd_var 0) pd_str) (pd_lst pda_nil) (nomark _)) (psd_cons (psd_set 3 sc_law_draw.nd (pd_pop (pd_dget (hu1 hr) (pd_var 0) pd_str))) (psd_cons (psd_if (ptd_cmp od_ge (pd_var 3) (pd_op od_pow pd_int pd_int) (nomark _)) (psd_cons (psd_expr (pd_append (pd_dget (hu1 hr) (pd_var 0) pd_str) (pd_op od_div (pd_var 3) (pd_callB (cd_max rfl) rfl g.max_ PyProof.Rows.Boot.«max» (pda_cons pd_int (pda_cons (pd_var 1) pda_nil)))))) (psd_one (psd_ret (pd_op od_mod (pd_callTy cd_int rfl g.int_ PyProof.Rows.Boot.«int» (pda_cons (pd_var 3) pda_nil)) (pd_var 1))))) psd_nil) (psd_one (psd_set 2 sc_law_draw.nd (pd_op od_add (pd_var 2) (pd_op od_mod (pd_callTy cd_int rfl g.int_ PyProof.Rows.Boot.«int» (pda_cons (pd_var 3) pda_nil)) pd_int)))))) psd_nil) (psd_cons (psd_set 2 sc_law_draw.nd (pd_op od_mod (pd_callTy cd_int rfl g.int_ PyProof.Rows.Boot.«int» (pda_cons (pd_op od_add (pd_op od_mul (pd_var 2) pd_int) pd_int) pda_nil)) pd_int)) (psd_cons (psd_set 2 sc_law_draw.nd (pd_op od_mod (pd_callTy cd_int rfl g.int_ PyProof.Rows.Boot.«int» (pda_cons (pd_op od_add (pd_op od_add (pd_op od_mul (pd_var 2) (pd_var 2)) (pd_op od_mul pd_int (pd_dget (hu1 hr) (pd_var 0) pd_str))) pd_int) pda_nil)) pd_int)) (psd_cons (psd_set 2 sc_law_draw.nd (pd_op od_mod (pd_callTy cd_int rfl g.int_ PyProof.Rows.Boot.«int» (pda_cons (pd_op od_mul (pd_var 2) pd_int) pda_nil)) pd_int)) (psd_one (psd_ret (pd_op od_mod (pd_callTy cd_int rfl g.int_ PyProof.Rows.Boot.«int» (pda_cons (pd_op od_div (pd_var 2) pd_int) pda_nil)) (pd_var 1)))))))))), ?_⟩
      have atA : ∀ cells m n, (opened M0 a l DK cells m n) a = some (.dic (dkOpen DK l m n)) := fun _ _ _ => updM_same
      have atL : ∀ cells m n, (opened M0 a l DK cells m n) l = some (.lst (cells.map D.int)) := fun cells m n => by
        unfold opened
        rw [updM_ne (fun z => nal z.symm)]; exact updM_same
      have putA : ∀ cells m n n', updM (opened M0 a l DK cells m n) a (.dic (dkOpen DK l m n')) = opened M0 a l DK cells m n' := fun _ _ _ _ => updM_upd
      have putL : ∀ cells cells' m n, updM (opened M0 a l DK cells m n) l (.lst (cells'.map D.int)) = opened M0 a l DK cells' m n := fun cells cells' m n => by
        funext b
        unfold opened updM
        by_cases h1 : b = l
        · subst h1
          have : ¬ b = a := fun z => nal z.symm
          simp [this]
        · simp [h1]
      have gDraws : ∀ (δ : Sl) cells m n, δ[0]? = some (some (.ref a)) → ∀ k : DKt, k (.int n) (opened M0 a l DK cells m n) → dDGet (dVar 0) (dC (.str "draws")) δ (opened M0 a l DK cells m n) k := fun δ cells m n e k hk => rd_dget (fun k h => rd_var e h) (fun k h => h) rfl (atA cells m n) rfl k hk
      have gMixed : ∀ (δ : Sl) cells m n, δ[0]? = some (some (.ref a)) → ∀ k : DKt, k (.int m) (opened M0 a l DK cells m n) → dDGet (dVar 0) (dC (.str "mixed")) δ (opened M0 a l DK cells m n) k := fun δ cells m n e k hk => rd_dget (fun k h => rd_var e h) (fun k h => h) rfl (atA cells m n) rfl k hk
      have gLeft : ∀ (δ : Sl) cells m n, δ[0]? = some (some (.ref a)) → ∀ k : DKt, k (.ref l) (opened M0 a l DK cells m n) → dDGet (dVar 0) (dC (.str "left")) δ (opened M0 a l DK cells m n) k := fun δ cells m n e k hk => rd_dget (fun k h => rd_var e h) (fun k h => h) rfl (atA cells m n) rfl k hk
      have tailF : ∀ (fig : Int) (x3 : Option D) cells n, cells.length ≤ 63 → dSeq
          (dSet 2 (dOp rMod (dCB rInt (dCons (dOp DL.rAdd (dOp rMul (dVar 2) (dC (D.int 40692))) (dC (D.int 90))) dNil)) (dC (D.int 2147483647))))
          (dSeq (dSet 2 (dOp rMod (dCB rInt (dCons (dOp DL.rAdd (dOp DL.rAdd (dOp rMul (dVar 2) (dVar 2)) (dOp rMul (dC (D.int 39373)) (dDGet (dVar 0) (dC (D.str "draws"))))) (dC (D.int 7))) dNil)) (dC (D.int 2147483587))))
            (dSeq (dSet 2 (dOp rMod (dCB rInt (dCons (dOp rMul (dVar 2) (dC (D.int 69621))) dNil)) (dC (D.int 2147483563))))
              (dRet (dOp rMod (dCB rInt (dCons (dOp rDiv (dVar 2) (dC (D.int 64))) dNil)) (dVar 1)))))
          { nx := fun x M' => kk D.non M', rt := kk } [some (.ref a), some (.int b), some (.int fig), x3] (opened M0 a l DK cells m n) := by
        intro fig x3 cells n hl
        refine rd_seqx (x := .int _) (fun k hk => rd_modI _ 2147483647 (fun k hk => rd_intI _ (fun k hk => rd_addI _ 90 (fun k hk => rd_mulI fig 40692 (fun k hk => hk) (fun k hk => hk) (mulV (by decide) (by decide)) k hk) (fun k hk => hk) k hk) k hk) (fun k hk => hk) (by decide) k hk) ?_
        generalize hf : (fig * 40692 + 90) % 2147483647 = f2
        have q1 : 0 ≤ f2 := by rw [← hf]; exact Int.emod_nonneg _ (by decide)
        have q2 : f2 < 2 ^ 64 := by
          have := Int.emod_lt_of_pos (fig * 40692 + 90) (show (0 : Int) < 2147483647 by decide)
          rw [hf] at this; omega
        refine rd_seqx (x := .int _) (fun k hk => rd_modI _ 2147483587 (fun k hk => rd_intI _ (fun k hk => rd_addI _ 7 (fun k hk => rd_addI _ _ (fun k hk => rd_mulI f2 f2 (fun k hk => hk) (fun k hk => hk) (mulW q1 q2) k hk) (fun k hk => rd_mulI 39373 n (fun k hk => hk) (fun k hk => gDraws _ _ _ _ rfl k hk) (mulW (by decide) (by decide)) k hk) k hk) (fun k hk => hk) k hk) k hk) (fun k hk => hk) (by decide) k hk) ?_
        refine rd_seqx (x := .int _) (fun k hk => rd_modI _ 2147483563 (fun k hk => rd_intI _ (fun k hk => rd_mulI _ 69621 (fun k hk => hk) (fun k hk => hk) (mulV (by decide) (by decide)) k hk) k hk) (fun k hk => hk) (by decide) k hk) ?_
        refine rd_modI _ b (fun k hk => rd_intI _ (fun k hk => rd_divI _ 64 (fun k hk => hk) (fun k hk => hk) ⟨by decide, by decide⟩ k hk) k hk) (fun k hk => hk) (by omega) _ ?_
        exact hk _ _ _ (Int.emod_nonneg _ (by omega)) (Int.emod_lt_of_pos _ (by omega)) hl
      have ne : a ≠ l := nal
      refine rd_dput0 (L := dkOpen DK l m n) (kk := .inr "draws") (v := .int (n + 1)) (fun k hk => rd_addI n 1 (fun k hk => gDraws _ _ _ _ rfl k hk) (fun k hk => hk) k hk) (fun k hk => hk) (fun k hk => hk) rfl (atA cells m n) (by show 4 < sizeLine; rw [sizeLine_eq]; decide) ?_
      have e1 : putD (dkOpen DK l m n) (.inr "draws") (.int (n + 1)) = dkOpen DK l m (n + 1) := rfl
      rw [e1, putA]
      generalize n + 1 = n
      refine rd_seqx (x := .int (m + 48271 * n)) (fun k hk => rd_addI m _ (fun k hk => gMixed _ _ _ _ rfl k hk) (fun k hk => rd_mulI 48271 n (fun k hk => hk) (fun k hk => gDraws _ _ _ _ rfl k hk) (mulW (by decide) (by decide)) k hk) k hk) ?_
      generalize m + 48271 * n = fig
      refine rd_join (fun δ' M' => ∃ (fig : Int) (x3 : Option D) (cells : List Int), cells.length ≤ 63 ∧ δ' = [some (.ref a), some (.int b), some (.int fig), x3] ∧ M' = opened M0 a l DK cells m n) ?_ fun tail => ?_
      · rintro _ _ ⟨fig, x3, cells, hl, rfl, rfl⟩
        exact tailF fig x3 cells n hl
      refine rd_if0 (!cells.isEmpty) (fun k hk => ?_) (fun hb => ?_) fun hb => ?_
      · refine rd_op (x := .ref l) (y := .lst []) _ (fun k hk => gLeft _ _ _ _ rfl k hk) (fun k hk => ⟨by rw [sizeLine_eq]; simp, hk⟩) ?_
        have e : lstOf (opened M0 a l DK cells m n) (.ref l) = some (cells.map D.int) := by unfold lstOf; simp only [atL]
        unfold rEqL
        rw [e]
        simpa using hk
      · obtain ⟨pre, c, rfl⟩ : ∃ pre c, cells = pre ++ [c] := by
          rcases List.eq_nil_or_concat cells with e | ⟨pre, c, e⟩
          · subst e; cases hb
          · exact ⟨pre, c, by simpa using e⟩
        have hpre : pre.length ≤ 62 := by simp at hc; omega
        have e3 : (opened M0 a l DK (pre ++ [c]) m n) l = some (.lst ((pre ++ [c]).map D.int)) := atL _ _ _
        refine rd_pop (fun k hk => gLeft _ _ _ _ rfl k hk) (ds := pre.map D.int) (x := .int c) (by rw [e3]; simp) ?_
        rw [putL]
        refine rd_cut (decide ((10 : Int) ^ (18 : Int).toNat ≤ c)) (fun k hk => ?_) (fun hb => ?_) fun hb => ?_
        · exact rd_op (x := .int c) (y := .int ((10 : Int) ^ (18 : Int).toNat)) _ (fun k hk => hk) (fun k hk => rd_op (x := .int 10) (y := .int 18) _ (fun k hk => hk) (fun k hk => hk) ⟨⟨by decide, by decide, by decide⟩, hk⟩) hk
        · refine rd_app (ds := pre.map D.int) (x := .int (c / (if b > 2 then b else 2))) (fun k hk => gLeft _ _ _ _ rfl k hk) (atL _ _ _) (fun k hk => rd_divI c (if b > 2 then b else 2) (fun k hk => hk) (fun k hk => hk) ?_ k hk) (by rw [sizeLine_eq]; simp; omega) ?_
          · refine ⟨by split <;> omega, ?_⟩
            have h64 : (if b > 2 then b else 2).natAbs < 2 ^ 64 := by split <;> omega
            have : (if b > 2 then b else 2).natAbs.log2 < 64 := Nat.log2_lt (by split <;> omega) |>.mpr h64
            omega
          · rw [show pre.map D.int ++ [D.int (c / (if b > 2 then b else 2))] = (pre ++ [c / (if b > 2 then b else 2)]).map D.int by simp, putL]
            refine rd_modI c b (fun k hk => rd_intI c (fun k hk => hk) k hk) (fun k hk => hk) (by omega) _ ?_
            exact hk _ _ _ (Int.emod_nonneg _ (by omega)) (Int.emod_lt_of_pos _ (by omega)) (by simp; omega)
        · refine rd_set (x := .int (fig + c % 2147483629)) (fun k hk => rd_addI fig _ (fun k hk => hk) (fun k hk => rd_modI c _ (fun k hk => rd_intI c (fun k hk => hk) k hk) (fun k hk => hk) (by decide) k hk) k hk) ?_
          exact tail _ _ ⟨_, some (.int c), pre, by omega, rfl, rfl⟩
      · have hn : cells = [] := by simpa using hb
        exact tail _ _ ⟨fig, none, cells, hc, rfl, rfl⟩
  obtain ⟨f, fd, a, b, c, d⟩ := h
  exact ⟨f, fd, a, b, c, draw_close d⟩
/-! ### picks -/
def Picks (s : D) (k : DKt) (M : Sto) : Prop := ∃ xs, (s = .lst xs ∨ s = .tup xs) ∧ 1 ≤ xs.length ∧ xs.length < 1000 ∧ ∀ x ∈ xs, k x M
def spPick : SpD := fun ds M k _ => ∃ (a : Addr) (s : D), ds = [.ref a, s] ∧ M a = some (.deck DK) ∧ Picks s k M
theorem atI_nat {xs : List D} {j : Int} (h0 : 0 ≤ j) (h1 : j < xs.length) : ∃ x ∈ xs, atI xs j = some x := by
  obtain ⟨n, rfl⟩ := Int.eq_ofNat_of_zero_le h0
  have h2 : n < xs.length := by simpa using h1
  refine ⟨xs[n], List.getElem_mem h2, ?_⟩
  unfold atI ixN
  simp [h2]
theorem ok_law_pick (Df : DefAt K mg "_law_pick" s_law_pick ["deck", "some"]) (g : Gb K mg) (c_law_draw : CalD P w K mg base W 1 "_law_draw" ["deck", "many"] (spDraw DK)) : CalD P w K mg base W 2 "_law_pick" ["deck", "some"] spPick :=
  okC Df sc_law_pick (fun ds M k e ⟨_, _, h, _⟩ => by rw [h]; rfl) fun f cdv A outer s H E F0 ds M kk e hr ⟨a, s, hd, hM, xs, hs, h1, h2, hk⟩ => by
    subst hd
    refine ⟨_, (psd_one (psd_ret (pd_ix (pd_var 1) (pd_cal c_law_draw (hr.mono (by decide)) (pda_cons (pd_var 0) (pda_cons (pd_callB cd_len rfl g.len_ PyProof.Rows.Boot.«len» (pda_cons (pd_var 1) pda_nil)) pda_nil)))))), ?_⟩
    rcases hs with rfl | rfl
    all_goals
      refine ⟨a, xs.length, rfl, hM, by omega, by omega, fun j j0 j1 => ?_⟩
      obtain ⟨x, hx, ex⟩ := atI_nat j0 j1
      show (match atI xs j with | some d => kk d M | none => False)
      rw [ex]
      exact hk x hx
def spMod : SpD := fun ds M k _ => ∃ a : Addr, ds = [.ref a] ∧ M a = some (.deck DK) ∧ ∀ p : Int, 2 ≤ p → p ≤ 1000 → k (.int p) M
theorem rd_call {sp : SpD} {e : XKD} {t : TAD} {δ : Sl} {M : Sto} {ds : List D} (k : DKt) (h : ∀ k : List D → Sto → Prop, k ds M → t δ M k) (hs : sp ds M k e) : dCall sp e t δ M k := h _ hs
theorem ok_law_modulus (Df : DefAt K mg "_law_modulus" s_law_modulus ["deck"]) (g : Gb K mg) (c_law_draw : CalD P w K mg base W 1 "_law_draw" ["deck", "many"] (spDraw DK)) (c_law_pick : CalD P w K mg base W 2 "_law_pick" ["deck", "some"] spPick) : CalD P w K mg base W 3 "_law_modulus" ["deck"] spMod :=
  okC Df sc_law_modulus (fun ds M k e ⟨_, h, _⟩ => by rw [h]; rfl) fun f cdv A outer s H E F0 ds M kk e hr ⟨a, hd, hM, hk⟩ => by
    subst hd
    refine ⟨_, (psd_one (psd_ret (pd_cal c_law_pick (hr.mono (by decide)) (pda_cons (pd_var 0) (pda_cons (pd_lst (pda_cons pd_int (pda_cons pd_int (pda_cons pd_int (pda_cons pd_int (pda_cons pd_int (pda_cons pd_int (pda_cons pd_int (pda_cons pd_int (pda_cons (pd_op od_add pd_int (pd_cal c_law_draw (hr.mono (by decide)) (pda_cons (pd_var 0) (pda_cons pd_int pda_nil)))) pda_nil)))))))))) pda_nil))))), ?_⟩
    refine ⟨a, 999, rfl, hM, by decide, by decide, fun j j0 j1 => ?_⟩
    refine ⟨by rw [sizeLine_eq]; simp, a, _, rfl, hM, _, .inl rfl, by simp, by simp, fun x hx => ?_⟩
    simp only [List.mem_cons, List.not_mem_nil, or_false] at hx
    rcases hx with rfl | rfl | rfl | rfl | rfl | rfl | rfl | rfl | rfl <;> exact hk _ (by omega) (by omega)
def spOne (G : D → Prop) : SpD := fun ds M k _ => ∃ a : Addr, ds = [.ref a] ∧ M a = some (.deck DK) ∧ ∀ x : D, G x → k x M
def oddMods : List D := [.int 1, .int 0, .int 1001, .bl true, .bl false, .non, .int (-2), .str "2", .tup [.int 2], .lst [.int 2], .dic [] [], .tup [], .str "", .int (10 ^ 39), .int (-1000), .tup [.tup [.int 3]]]
theorem ok_law_odd_modulus (Df : DefAt K mg "_law_odd_modulus" s_law_odd_modulus ["deck"]) (g : Gb K mg) (c_law_pick : CalD P w K mg base W 2 "_law_pick" ["deck", "some"] spPick) : CalD P w K mg base W 3 "_law_odd_modulus" ["deck"] (spOne (· ∈ oddMods)) :=
  okC Df sc_law_odd_modulus (fun ds M k e ⟨_, h, _⟩ => by rw [h]; rfl) fun f cdv A outer s H E F0 ds M kk e hr ⟨a, hd, hM, hk⟩ => by
    subst hd
    refine ⟨_, (psd_one (psd_ret (pd_cal c_law_pick (hr.mono (by decide)) (pda_cons (pd_var 0) (pda_cons (pd_lst (pda_cons pd_int (pda_cons pd_int (pda_cons pd_int (pda_cons pd_bl (pda_cons pd_bl (pda_cons pd_non (pda_cons (pd_un ud_neg pd_int) (pda_cons pd_str (pda_cons (pd_tup (pda_cons pd_int pda_nil)) (pda_cons (pd_lst (pda_cons pd_int pda_nil)) (pda_cons pd_dnewF (pda_cons (pd_tup pda_nil) (pda_cons pd_str (pda_cons (pd_op od_pow pd_int pd_int) (pda_cons (pd_un ud_neg pd_int) (pda_cons (pd_tup (pda_cons (pd_tup (pda_cons pd_int pda_nil)) pda_nil)) pda_nil))))))))))))))))) pda_nil))))), ?_⟩
    have sz : ∀ n : Nat, n ≤ 30 → n ≤ sizeLine := fun n h => by rw [sizeLine_eq]; omega
    exact ⟨sz _ (by simp), sz _ (by simp), sz _ (by simp), ⟨by decide, by decide, by decide⟩, sz _ (by simp), sz _ (by simp), sz _ (by simp), a, _, rfl, hM, oddMods, .inl rfl, by decide, by decide, hk⟩
def odds : List D := [.non, .bl true, .bl false, .int 0, .int 1, .int (-1), .int 2, .int (10 ^ 39), .str "", .str "1", .str "row", .str "a\n", .tup [], .tup [.int 0], .tup [.int 1], .tup [.int 1, .int 2], .tup [.tup [], .tup []], .tup [.bl true]] ++
  [.lst [.int 1, .int 2], .lst [], .dic [] [], .dic [.inr "a"] [.tup [.int 1]], .tup [.tup [.int 0, .int 0], .int 1], .tup [.non], .tup [.str "row"], .tup [.int 0, .tup []], .lst [.tup []], .tup [.int 1, .str "2"]]
theorem ok_law_odd (Df : DefAt K mg "_law_odd" s_law_odd ["deck"]) (g : Gb K mg) (c_law_pick : CalD P w K mg base W 2 "_law_pick" ["deck", "some"] spPick) : CalD P w K mg base W 3 "_law_odd" ["deck"] (spOne (· ∈ odds)) :=
  okC Df sc_law_odd (fun ds M k e ⟨_, h, _⟩ => by rw [h]; rfl) fun f cdv A outer s H E F0 ds M kk e hr ⟨a, hd, hM, hk⟩ => by
    subst hd
    refine ⟨_, (psd_cons (psd_set 1 sc_law_odd.nd (pd_lst (pda_cons pd_non (pda_cons pd_bl (pda_cons pd_bl (pda_cons pd_int (pda_cons pd_int (pda_cons (pd_un ud_neg pd_int) (pda_cons pd_int (pda_cons (pd_op od_pow pd_int pd_int) (pda_cons pd_str (pda_cons pd_str (pda_cons pd_str (pda_cons pd_str (pda_cons (pd_tup pda_nil) (pda_cons (pd_tup (pda_cons pd_int pda_nil)) (pda_cons (pd_tup (pda_cons pd_int pda_nil)) (pda_cons (pd_tup (pda_cons pd_int (pda_cons pd_int pda_nil))) (pda_cons (pd_tup (pda_cons (pd_tup pda_nil) (pda_cons (pd_tup pda_nil) pda_nil))) (pda_cons (pd_tup (pda_cons pd_bl pda_nil)) pda_nil)))))))))))))))))))) (psd_one (psd_ret (pd_cal c_law_pick (hr.mono (by decide)) (pda_cons (pd_var 0) (pda_cons (pd_op od_add (pd_var 1) (pd_lst (pda_cons (pd_lst (pda_cons pd_int (pda_cons pd_int pda_nil))) (pda_cons (pd_lst pda_nil) (pda_cons pd_dnewF (pda_cons (pd_dispF (ppd_cons (kk := .inr "a") pd_str (pd_tup (pda_cons pd_int pda_nil)) ppd_nil) (by decide +kernel)) (pda_cons (pd_tup (pda_cons (pd_tup (pda_cons pd_int (pda_cons pd_int pda_nil))) (pda_cons pd_int pda_nil))) (pda_cons (pd_tup (pda_cons pd_non pda_nil)) (pda_cons (pd_tup (pda_cons pd_str pda_nil)) (pda_cons (pd_tup (pda_cons pd_int (pda_cons (pd_tup pda_nil) pda_nil))) (pda_cons (pd_lst (pda_cons (pd_tup pda_nil) pda_nil)) (pda_cons (pd_tup (pda_cons pd_int (pda_cons pd_str pda_nil))) pda_nil)))))))))))) pda_nil)))))), ?_⟩
    have sz : ∀ n : Nat, n ≤ 30 → n ≤ sizeLine := fun n h => by rw [sizeLine_eq]; omega
    refine ⟨⟨by decide, by decide, by decide⟩, sz _ (by simp), sz _ (by simp), sz _ (by simp), sz _ (by simp), sz _ (by simp), sz _ (by simp), sz _ (by simp), sz _ (by simp), sz _ (by simp), ?_⟩
    refine ⟨sz _ (by simp), sz _ (by simp), fun p hp => ⟨sz _ (by simp), M, hp, rfl, sz _ (by simp), sz _ (by simp), sz _ (by simp), sz _ (by simp), sz _ (by simp), sz _ (by simp), sz _ (by simp), sz _ (by simp), sz _ (by simp), sz _ (by simp), sz _ (by simp), ?_⟩⟩
    exact ⟨a, _, rfl, hM, odds, .inl rfl, by decide, by decide, hk⟩
def isLtr (l : Int) : Prop := l = 1 ∨ l = -1 ∨ l = 2 ∨ l = -2
def spLampRow : SpD := fun ds M k _ => ∃ (a : Addr) (mo : Nat), ds = [.ref a, .int (mo : Int)] ∧ M a = some (.deck DK) ∧ ∀ ls : List Int, (∀ l ∈ ls, isLtr l) → ls.length ≤ mo → k (.tup (ls.map D.int)) M
theorem ok_law_lamp_row (Df : DefAt K mg "_law_lamp_row" s_law_lamp_row ["deck", "most"]) (g : Gb K mg) (c_law_draw : CalD P w K mg base W 1 "_law_draw" ["deck", "many"] (spDraw DK)) (c_law_pick : CalD P w K mg base W 2 "_law_pick" ["deck", "some"] spPick) : CalD P w K mg base W 3 "_law_lamp_row" ["deck", "most"] spLampRow :=
  okC Df sc_law_lamp_row (fun ds M k e ⟨_, _, h, _⟩ => by rw [h]; rfl) fun f cdv A outer s H E F0 ds M kk e hr ⟨a, mo, hd, hM, hk⟩ => by
    subst hd
    refine ⟨_, (psd_cons (psd_set 2 sc_law_lamp_row.nd (pd_tup pda_nil)) (psd_cons (psd_for PassesOwn.never rfl (pid_range1 g.range_ (pda_cons (pd_cal c_law_pick (hr.mono (by decide)) (pda_cons (pd_var 0) (pda_cons (pd_lst (pda_cons pd_int (pda_cons pd_int (pda_cons pd_int (pda_cons pd_int (pda_cons pd_int (pda_cons pd_int (pda_cons pd_int pda_nil)))))))) pda_nil))) pda_nil)) (pgd_name 3 sc_law_lamp_row.nd) (psd_one (psd_set 2 sc_law_lamp_row.nd (pd_op od_add (pd_var 2) (pd_op od_mul (pd_tup (pda_cons (pd_cal c_law_pick (hr.mono (by decide)) (pda_cons (pd_var 0) (pda_cons (pd_tup (pda_cons pd_int (pda_cons pd_int (pda_cons (pd_un ud_neg pd_int) (pda_cons (pd_un ud_neg pd_int) (pda_cons pd_int pda_nil)))))) pda_nil))) pda_nil)) (pd_op od_add pd_int (pd_cal c_law_draw (hr.mono (by decide)) (pda_cons (pd_var 0) (pda_cons (pd_cal c_law_pick (hr.mono (by decide)) (pda_cons (pd_var 0) (pda_cons (pd_lst (pda_cons pd_int (pda_cons pd_int (pda_cons pd_int (pda_cons pd_int pda_nil))))) pda_nil))) pda_nil))))))))) (psd_one (psd_ret (pd_sl (pd_var 2) pod_none (pod_some (pd_var 1))))))), ?_⟩
    have sz : ∀ n : Nat, n ≤ 1000 → n ≤ sizeLine := fun n h => by rw [sizeLine_eq]; omega
    refine ⟨sz _ (by simp), ?_⟩
    dsimp only
    refine ⟨sz _ (by simp), a, _, rfl, hM, _, .inl rfl, by simp, by simp, fun x hx => ?_⟩
    obtain ⟨n, rfl, hn⟩ : ∃ n : Nat, x = .int (n : Int) ∧ n ≤ 13 := by
      have hx : x ∈ List.map (fun n : Nat => D.int (n : Int)) [4, 7, 0, 1, 10, 13, 3] := hx
      obtain ⟨n, hn, rfl⟩ := List.mem_map.mp hx
      have all : ∀ m ∈ ([4, 7, 0, 1, 10, 13, 3] : List Nat), m ≤ 13 := by decide
      exact ⟨n, rfl, all n hn⟩
    refine ⟨by omega, by omega, ?_⟩
    refine for_of (fun r δ M' => M' = M ∧ ∃ (ls : List Int) (y : Option D), δ = [some (.ref a), some (.int (mo : Int)), some (.tup (ls.map D.int)), y] ∧ (∀ l ∈ ls, isLtr l) ∧ ls.length + 6 * r.length ≤ 78) ?_ ?_ _ _ _ ⟨rfl, [], none, rfl, by simp, by simp; omega⟩
    · rintro d r δ M' K' ⟨rfl, ls, y, rfl, hl, hn⟩ hK
      refine ⟨sz _ (by simp), a, _, rfl, hM, _, .inr rfl, by simp, by simp, fun y hy => ?_⟩
      obtain ⟨l, rfl, hl2⟩ : ∃ l : Int, y = .int l ∧ isLtr l := by
        simp only [List.mem_cons, List.not_mem_nil, or_false] at hy
        rcases hy with rfl | rfl | rfl | rfl | rfl <;> exact ⟨_, rfl, by unfold isLtr; omega⟩
      refine ⟨sz _ (by simp), sz _ (by simp), a, _, rfl, hM, _, .inl rfl, by simp, by simp, fun z hz => ?_⟩
      obtain ⟨n, rfl, hn1, hn2⟩ : ∃ n : Int, z = .int n ∧ 1 ≤ n ∧ n ≤ 6 := by
        simp only [List.mem_cons, List.not_mem_nil, or_false] at hz
        rcases hz with rfl | rfl | rfl | rfl <;> exact ⟨_, rfl, by omega, by omega⟩
      refine ⟨a, n, rfl, hM, hn1, by omega, fun j j0 j1 => ?_⟩
      refine ⟨by omega, by omega, by simp, ?_⟩
      have e : (List.replicate (1 + j).toNat [D.int l]).flatten = (List.replicate (1 + j).toNat l).map D.int := by
        rw [List.map_replicate]
        generalize (1 + j).toNat = m
        induction m with
        | zero => rfl
        | succ m ih => rw [List.replicate_succ, List.replicate_succ, List.flatten_cons, ih]; rfl
      rw [e]
      have hm : (1 + j).toNat ≤ 6 := by omega
      refine ⟨sz _ (by simp at hn ⊢; omega), ?_⟩
      refine hK _ _ ⟨rfl, ls ++ List.replicate (1 + j).toNat l, some d, by rw [List.map_append]; rfl, fun x hx => ?_, by simp at hn ⊢; omega⟩
      rcases List.mem_append.mp hx with h | h
      · exact hl x h
      · rw [List.eq_of_mem_replicate h]; exact hl2
    · rintro δ M' ⟨rfl, ls, y, rfl, hl, hn⟩
      show kk (.tup (cutD (ls.map D.int) none (some (mo : Int)))) M'
      rw [cut_to, ← List.map_take]
      exact hk _ (fun l h => hl l (List.mem_of_mem_take h)) (by simp; omega)
end
end Kx
set_option maxHeartbeats 2000000
namespace Kx
open PySem PySem.Spec L2 DL
section
variable {P : Program} {w : World} {K : PySem.W.Frag} {mg : Str → Option Value} {base : Heap} {W : Wd}
/-! ### things turned -/
theorem rd_acons {te : TED} {ta : TAD} {δ : Sl} {M : Sto} (x : D) (xs : List D) (h : ∀ k : DKt, k x M → te δ M k) (h2 : ∀ k : List D → Sto → Prop, k xs M → ta δ M k) (k : List D → Sto → Prop) (hk : k (x :: xs) M) : dCons te ta δ M k := h _ (h2 _ hk)
def WS : List D := WL.map D.str
theorem rd_words {td : TED} {δ : Sl} {M : Sto} {a : Addr} (h1 : ∀ k : DKt, k (.ref a) M → td δ M k) (hM : M a = some (.deck DK)) (k : DKt) (hk : k (.lst WS) M) : dDkGet td (.inr "words") δ M k := by
  refine h1 _ ?_
  simp only [hM]
  exact ⟨by decide +kernel, by decide +kernel, by decide +kernel, hk⟩
def spTurned : SpD := fun ds M k _ => ∃ (a : Addr) (d : D) (n m b : Nat), ds = [.ref a, d] ∧ M a = some (.deck DK) ∧ Gd n m b d ∧ n ≤ 3000000 ∧ 70 ≤ b ∧ b ≤ 1000 ∧ ∀ x, Gd (4 * n + 30000) (m + 1) (b + 1) x → k x M
theorem ok_law_turned (Df : DefAt K mg "_law_turned" s_law_turned ["deck", "thing"]) (g : Gb K mg) (c_law_draw : CalD P w K mg base W 1 "_law_draw" ["deck", "many"] (spDraw DK)) (c_law_pick : CalD P w K mg base W 2 "_law_pick" ["deck", "some"] spPick) : CalD P w K mg base W 3 "_law_turned" ["deck", "thing"] spTurned :=
  okC Df sc_law_turned (fun ds M k e ⟨_, _, _, _, _, h, _⟩ => by rw [h]; rfl) fun f cdv A outer s H E F0 ds M kk e hr ⟨a, d, n, m, b, hd, hM, hg, hn, hb, hb2, hk⟩ => by
    subst hd
    refine ⟨_, (psd_cons (psd_if (ptd_val (pd_callB cd_isi rfl g.isinstance_ PyProof.Rows.Boot.«isinstance» (pda_cons (pd_var 1) (pda_cons (pd_ty rfl g.tuple_ PyProof.Rows.Boot.«tuple») pda_nil)))) (psd_cons (psd_set 2 sc_law_turned.nd (pd_cal c_law_draw (hr.mono (by decide)) (pda_cons (pd_var 0) (pda_cons (pd_op od_add (pd_callB cd_len rfl g.len_ PyProof.Rows.Boot.«len» (pda_cons (pd_var 1) pda_nil)) pd_int) pda_nil)))) (psd_cons (psd_par3 4 5 6 rfl sc_law_turned.nd (pda_cons (pd_sl (pd_var 1) (pod_some (pd_var 2)) (pod_some (pd_op od_add (pd_var 2) pd_int))) (pda_cons (pd_sl (pd_var 1) (pod_some (pd_op od_add (pd_var 2) pd_int)) (pod_some (pd_op od_add (pd_var 2) pd_int))) (pda_cons (pd_sl (pd_var 1) (pod_some (pd_op od_add (pd_var 2) pd_int)) pod_none) pda_nil)))) (psd_cons (psd_set 3 sc_law_turned.nd (pd_lst (pda_cons (pd_callTy cd_list rfl g.list_ PyProof.Rows.Boot.«list» (pda_cons (pd_var 1) pda_nil)) (pda_cons (pd_op od_add (pd_op od_add (pd_sl (pd_var 1) pod_none (pod_some (pd_var 2))) (pd_var 5)) (pd_var 6)) (pda_cons (pd_op od_add (pd_op od_add (pd_sl (pd_var 1) pod_none (pod_some (pd_var 2))) (pd_var 4)) (pd_sl (pd_var 1) (pod_some (pd_var 2)) pod_none)) (pda_cons (pd_op od_add (pd_op od_add (pd_op od_add (pd_sl (pd_var 1) pod_none (pod_some (pd_var 2))) (pd_var 5)) (pd_var 4)) (pd_var 6)) pda_nil)))))) (psd_one (psd_ret (pd_cal c_law_pick (hr.mono (by decide)) (pda_cons (pd_var 0) (pda_cons (pd_op od_add (pd_var 3) (pd_lst (pda_cons (pd_revT (pd_var 1)) (pda_cons (pd_op od_add (pd_var 1) (pd_tup (pda_cons pd_int pda_nil))) (pda_cons (pd_tup (pda_cons (pd_var 1) pda_nil)) (pda_cons (pd_op od_add (pd_var 1) (pd_sl (pd_var 1) pod_none (pod_some (pd_var 2)))) (pda_cons (pd_sl (pd_var 1) pod_none (pod_some (pd_var 2))) (pda_cons (pd_tup pda_nil) (pda_cons pd_non pda_nil))))))))) pda_nil)))))))) psd_nil) (psd_cons (psd_if (ptd_val (pd_callB cd_isi rfl g.isinstance_ PyProof.Rows.Boot.«isinstance» (pda_cons (pd_var 1) (pda_cons (pd_ty rfl g.int_ PyProof.Rows.Boot.«int») pda_nil)))) (psd_cons (psd_set 3 sc_law_turned.nd (pd_lst (pda_cons (pd_op od_add (pd_var 1) pd_int) (pda_cons (pd_op od_sub (pd_var 1) pd_int) (pda_cons (pd_un ud_neg (pd_var 1)) (pda_cons (pd_callTy cd_bool rfl g.bool_ PyProof.Rows.Boot.«bool» (pda_cons (pd_var 1) pda_nil)) (pda_cons (pd_callTy cd_str rfl g.str_ PyProof.Rows.Boot.«str» (pda_cons (pd_var 1) pda_nil)) (pda_cons pd_non (pda_cons (pd_tup (pda_cons (pd_var 1) pda_nil)) (pda_cons (pd_lst (pda_cons (pd_var 1) pda_nil)) (pda_cons pd_int (pda_cons pd_int pda_nil)))))))))))) (psd_one (psd_ret (pd_cal c_law_pick (hr.mono (by decide)) (pda_cons (pd_var 0) (pda_cons (pd_op od_add (pd_var 3) (pd_lst (pda_cons (pd_op od_add (pd_var 1) (pd_op od_pow pd_int pd_int)) (pda_cons (pd_op od_mul pd_int (pd_var 1)) (pda_cons (pd_op od_sub (pd_var 1) pd_int) pda_nil))))) pda_nil)))))) psd_nil) (psd_one (psd_ret (pd_cal c_law_pick (hr.mono (by decide)) (pda_cons (pd_var 0) (pda_cons (pd_op od_add (pd_dkget (hu1 hr) (pd_var 0)) (pd_lst (pda_cons pd_non (pda_cons pd_int (pda_cons (pd_tup pda_nil) pda_nil))))) pda_nil))))))), ?_⟩
    have sz : ∀ n : Nat, n ≤ 16000000 → n ≤ sizeLine := fun n h => by rw [sizeLine_eq]; omega
    have p1 : 2 ^ (b + 1) = 2 * 2 ^ b := by rw [Nat.pow_succ]; omega
    have p70 : 2 ^ 70 ≤ 2 ^ b := Nat.pow_le_pow_right (by decide) hb
    have n70 : (10 : Nat) ^ 20 + 10 < 2 ^ 70 := by decide
    have zero : ∀ n m : Nat, Gd 2000 m (b + 1) (.int 0) := fun _ _ => .int (by show 0 < _; omega)
    have one_ : ∀ m : Nat, Gd 2000 m (b + 1) (.int 1) := fun _ => .int (by show 1 < _; omega)
    have none_ : ∀ m : Nat, Gd 5 m (b + 1) .non := fun _ => ⟨rfl, Nat.le_refl _, Nat.zero_le _⟩
    have empty_ : ∀ m : Nat, Gd 3 (m + 1) (b + 1) (.tup []) := fun _ => GL.nil.tup
    have bl_ : ∀ (m : Nat) (c : Bool), Gd 5 m (b + 1) (.bl c) := fun _ _ => ⟨rfl, Nat.le_refl _, Nat.zero_le _⟩
    have words : ∀ x ∈ (WL.map D.str) ++ [D.non, .int 0, .tup []], Gd 2000 (m + 1) (b + 1) x := by
      intro x hx
      rcases List.mem_append.mp hx with h | h
      · obtain ⟨y, hy, rfl⟩ := List.mem_map.mp h
        refine ⟨rfl, ?_, Nat.zero_le _⟩
        have : ∀ y ∈ WL, (reprText y).length ≤ 2000 := by decide +kernel
        exact this y hy
      · simp only [List.mem_cons, List.not_mem_nil, or_false] at h
        rcases h with rfl | rfl | rfl
        · exact (none_ _).up (by omega) (Nat.le_refl _) (Nat.le_refl _)
        · exact zero 0 _
        · exact (empty_ m).up (by omega) (Nat.le_refl _) (Nat.le_refl _)
    cases d with
    | tup xs =>
      obtain ⟨m, rfl, h3, gl⟩ := hg.tup
      have hl := gl.l
      have h0 : xs.length ≤ 1500000 := by omega
      have hL : ∀ lo hi, (cutD xs lo hi).length ≤ 1500000 := fun lo hi => by
        unfold cutD
        simp only [List.length_take, List.length_drop]
        omega
      have gA : ∀ lo hi, GL n m (b + 1) (cutD xs lo hi) := fun lo hi => by
        unfold cutD
        exact (((gl.drop _).take _).up (by omega) (Nat.le_refl _) (by omega))
      have gx : GL n m (b + 1) xs := gl.up (by omega) (Nat.le_refl _) (by omega)
      have ap : ∀ {A B : List D} {p q : Nat}, A.length ≤ p → B.length ≤ q → (A ++ B).length ≤ p + q := fun h1 h2 => by rw [List.length_append]; omega
      have sm : ∀ {A B : List D} {p q : Nat}, A.length ≤ p → B.length ≤ q → p + q ≤ 16000000 → A.length + B.length ≤ sizeLine := fun h1 h2 h3 => sz _ (by omega)
      refine rd_cut true (fun k hk => hk) (fun _ => ?_) fun hb => by cases hb
      refine ⟨a, _, rfl, hM, by omega, by omega, fun j j0 j1 => ?_⟩
      refine ⟨sm (hL _ _) (hL _ _) (by decide), sm (ap (hL _ _) (hL _ _)) (hL _ _) (by decide), sm (hL _ _) (hL _ _) (by decide), sm (ap (hL _ _) (hL _ _)) (hL _ _) (by decide), sm (hL _ _) (hL _ _) (by decide), sm (ap (hL _ _) (hL _ _)) (hL _ _) (by decide), sm (ap (ap (hL _ _) (hL _ _)) (hL _ _)) (hL _ _) (by decide), sz _ (by simp), ?_⟩
      refine ⟨sz _ (by simp), sm h0 (Nat.le_refl 1) (by decide), sz _ (by simp), sm h0 (hL _ _) (by decide), sz _ (by simp), sz _ (by simp), sz _ (by simp), a, _, rfl, hM, _, .inl rfl, by simp, by simp, fun x hx => ?_⟩
      simp only [List.mem_append, List.mem_cons, List.not_mem_nil, or_false] at hx
      rcases hx with (rfl | rfl | rfl | rfl) | rfl | rfl | rfl | rfl | rfl | rfl | rfl
      · exact hk _ (gx.lst.up (by omega) (by omega) (Nat.le_refl _))
      · exact hk _ ((((gA _ _).append (gA _ _)).append (gA _ _)).tup.up (by omega) (by omega) (Nat.le_refl _))
      · exact hk _ ((((gA _ _).append (gA _ _)).append (gA _ _)).tup.up (by omega) (by omega) (Nat.le_refl _))
      · exact hk _ (((((gA _ _).append (gA _ _)).append (gA _ _)).append (gA _ _)).tup.up (by omega) (by omega) (Nat.le_refl _))
      · exact hk _ (gx.rev.tup.up (by omega) (by omega) (Nat.le_refl _))
      · exact hk _ ((gx.append (GL.one (zero 0 _))).tup.up (by omega) (by omega) (Nat.le_refl _))
      · exact hk _ ((GL.one hg).tup.up (by omega) (by omega) (by omega))
      · exact hk _ ((gx.append (gA _ _)).tup.up (by omega) (by omega) (Nat.le_refl _))
      · exact hk _ ((gA _ _).tup.up (by omega) (by omega) (Nat.le_refl _))
      · exact hk _ ((empty_ 0).up (by omega) (by omega) (Nat.le_refl _))
      · exact hk _ ((none_ 0).up (by omega) (by omega) (Nat.le_refl _))
    | int i =>
      have hi : i.natAbs < 2 ^ b := by simpa [cln] using hg.c
      refine rd_cut false (fun k hk => hk) (fun hb => by cases hb) fun _ => ?_
      refine rd_cut true (fun k hk => hk) (fun _ => ?_) fun hb => by cases hb
      have hs := int_show (b := b) (by omega) hi
      refine ⟨hs, sz _ (by simp), sz _ (by simp), sz _ (by simp), ?_⟩
      refine ⟨⟨by decide, by decide, by decide⟩, mulW (by decide) (by decide), sz _ (by simp), sz _ (by simp), a, _, rfl, hM, _, .inl rfl, by simp, by simp, fun x hx => ?_⟩
      have gi : ∀ {j : Int}, j.natAbs < 2 ^ (b + 1) → kk (.int j) M := fun h => hk _ ((Gd.int (m := 0) h).up (by omega) (by omega) (Nat.le_refl _))
      have g0 : Gd 2000 0 (b + 1) (.int i) := .int (by omega)
      have h20 : (10 : Int) ^ (20 : Int).toNat = 100000000000000000000 := by decide
      simp only [List.mem_append, List.mem_cons, List.not_mem_nil, or_false] at hx
      rcases hx with (rfl | rfl | rfl | rfl | rfl | rfl | rfl | rfl | rfl | rfl) | rfl | rfl | rfl
      · exact gi (by omega)
      · exact gi (by omega)
      · exact gi (by omega)
      · exact hk _ ((bl_ 0 _).up (by omega) (by omega) (Nat.le_refl _))
      · exact hk _ ((Gd.num (m := 0) hs).up (by omega) (by omega) (Nat.le_refl _))
      · exact hk _ ((none_ 0).up (by omega) (by omega) (Nat.le_refl _))
      · exact hk _ ((GL.one g0).tup.up (by omega) (by omega) (Nat.le_refl _))
      · exact hk _ ((GL.one g0).lst.up (by omega) (by omega) (Nat.le_refl _))
      · exact gi (by show 0 < _; omega)
      · exact gi (by show 1 < _; omega)
      · exact gi (by rw [h20]; omega)
      · exact gi (by omega)
      · exact gi (by omega)
    | bl c =>
      refine rd_cut false (fun k hk => hk) (fun hb => by cases hb) fun _ => ?_
      refine rd_cut true (fun k hk => hk) (fun _ => ?_) fun hb => by cases hb
      refine ⟨sz _ (by simp), sz _ (by simp), sz _ (by simp), ?_⟩
      refine ⟨⟨by decide, by decide, by decide⟩, sz _ (by simp), sz _ (by simp), a, _, rfl, hM, _, .inl rfl, by simp, by simp, fun x hx => ?_⟩
      have gi : ∀ {j : Int}, j.natAbs < 2 ^ 70 → kk (.int j) M := fun h => hk _ ((Gd.int (m := 0) (b := b + 1) (by omega)).up (by omega) (by omega) (Nat.le_refl _))
      have g0 : Gd 5 0 (b + 1) (.bl c) := bl_ 0 c
      have gs2 : ∀ y : Str, y = "True" ∨ y = "False" → Gd 2000 0 (b + 1) (.str y) := fun y h => by
        have gs : ∀ y ∈ [("True" : Str), "False"], (reprText y).length ≤ 2000 := by decide +kernel
        exact ⟨rfl, gs y (by rcases h with rfl | rfl <;> simp), Nat.zero_le _⟩
      have gs : ∀ y ∈ [("True" : Str), "False"], (reprText y).length ≤ 2000 := by decide +kernel
      simp only [List.mem_append, List.mem_cons, List.not_mem_nil, or_false] at hx
      rcases hx with (rfl | rfl | rfl | rfl | rfl | rfl | rfl | rfl | rfl | rfl) | rfl | rfl | rfl
      · exact gi (by cases c <;> decide)
      · exact gi (by cases c <;> decide)
      · exact gi (by cases c <;> decide)
      · exact hk _ ((bl_ 0 _).up (by omega) (by omega) (Nat.le_refl _))
      · exact hk _ ((gs2 _ (by cases c; exact Or.inr rfl; exact Or.inl rfl)).up (by omega) (by omega) (Nat.le_refl _))
      · exact hk _ ((none_ 0).up (by omega) (by omega) (Nat.le_refl _))
      · exact hk _ ((GL.one g0).tup.up (by omega) (by omega) (Nat.le_refl _))
      · exact hk _ ((GL.one g0).lst.up (by omega) (by omega) (Nat.le_refl _))
      · exact gi (by decide)
      · exact gi (by decide)
      · exact gi (by cases c <;> decide)
      · exact gi (by cases c <;> decide)
      · exact gi (by cases c <;> decide)
    | str y =>
      refine rd_cut false (fun k hk => hk) (fun hb => by cases hb) fun _ => ?_
      refine rd_cut false (fun k hk => hk) (fun hb => by cases hb) fun _ => ?_
      refine rd_call (ds := [.ref a, .lst (WS ++ [D.non, .int 0, .tup []])]) _ (fun k hk => ?_) ⟨a, _, rfl, hM, _, .inl rfl, by simp [WS, WL], by simp [WS, WL], fun x hx => hk _ ((words x hx).up (by omega) (by omega) (Nat.le_refl _))⟩
      refine rd_acons (.ref a) [_] (fun k hk => hk) (fun k hk => rd_acons (.lst (WS ++ [D.non, .int 0, .tup []])) [] (fun k hk => rd_op (x := .lst WS) (y := .lst [D.non, .int 0, .tup []]) k (fun k hk => rd_words (fun k hk => hk) hM k hk) (fun k hk => ⟨sz _ (by simp), sz _ (by simp), hk⟩) ⟨sz _ (by simp [WS, WL]), hk⟩) (fun k hk => hk) k hk) k hk
    | non =>
      refine rd_cut false (fun k hk => hk) (fun hb => by cases hb) fun _ => ?_
      refine rd_cut false (fun k hk => hk) (fun hb => by cases hb) fun _ => ?_
      refine rd_call (ds := [.ref a, .lst (WS ++ [D.non, .int 0, .tup []])]) _ (fun k hk => ?_) ⟨a, _, rfl, hM, _, .inl rfl, by simp [WS, WL], by simp [WS, WL], fun x hx => hk _ ((words x hx).up (by omega) (by omega) (Nat.le_refl _))⟩
      refine rd_acons (.ref a) [_] (fun k hk => hk) (fun k hk => rd_acons (.lst (WS ++ [D.non, .int 0, .tup []])) [] (fun k hk => rd_op (x := .lst WS) (y := .lst [D.non, .int 0, .tup []]) k (fun k hk => rd_words (fun k hk => hk) hM k hk) (fun k hk => ⟨sz _ (by simp), sz _ (by simp), hk⟩) ⟨sz _ (by simp [WS, WL]), hk⟩) (fun k hk => hk) k hk) k hk
    | lst ys =>
      refine rd_cut false (fun k hk => hk) (fun hb => by cases hb) fun _ => ?_
      refine rd_cut false (fun k hk => hk) (fun hb => by cases hb) fun _ => ?_
      refine rd_call (ds := [.ref a, .lst (WS ++ [D.non, .int 0, .tup []])]) _ (fun k hk => ?_) ⟨a, _, rfl, hM, _, .inl rfl, by simp [WS, WL], by simp [WS, WL], fun x hx => hk _ ((words x hx).up (by omega) (by omega) (Nat.le_refl _))⟩
      refine rd_acons (.ref a) [_] (fun k hk => hk) (fun k hk => rd_acons (.lst (WS ++ [D.non, .int 0, .tup []])) [] (fun k hk => rd_op (x := .lst WS) (y := .lst [D.non, .int 0, .tup []]) k (fun k hk => rd_words (fun k hk => hk) hM k hk) (fun k hk => ⟨sz _ (by simp), sz _ (by simp), hk⟩) ⟨sz _ (by simp [WS, WL]), hk⟩) (fun k hk => hk) k hk) k hk
    | dic _ _ => have := hg.c; simp [cln] at this
    | ref _ => have := hg.c; simp [cln] at this
    | ty _ => have := hg.c; simp [cln] at this
/-! ### things bent -/
theorem rd_ifdraw {t1 t2 : TTD} {ta : TED} {t u : TSD} {d : EndD} {δ : Sl} {M : Sto} {n : Int} (h1 : ∀ k : Bool → Sto → Prop, k true M → t1 δ M k) (h2 : ∀ k : Bool → Sto → Prop, k true M → t2 δ M k) (h : ∀ K : DKt, (∀ j : Int, 0 ≤ j → j < n → K (.int j) M) → ta δ M K) (yes : t { d with nx := u d } δ M) (no : u d δ M) : dSeq (dIfS (dAnd t1 (dAnd t2 (dTst (dOp rGt ta (dC (.int 0)))))) t dNext) u d δ M :=
  h1 _ (h2 _ (h _ fun j _ _ => by
    show (match decide (0 < j) with | true => t { d with nx := u d } δ M | false => u d δ M)
    split
    · exact yes
    · exact no))
def spBent (N : Nat) : SpD := fun ds M k _ => ∃ (a : Addr) (d : D) (n m b : Nat), ds = [.ref a, d] ∧ M a = some (.deck DK) ∧ Gd n m b d ∧ m < N ∧ n ≤ 3000000 ∧ 70 ≤ b ∧ b ≤ 1000 ∧ ∀ x, Gd (4 * n + 30000) (m + 1) (b + 1) x → k x M
theorem atN {xs : List D} {t : Nat} (h : t < xs.length) : atI xs (t : Int) = some xs[t] := by
  unfold atI ixN
  simp [h]
theorem ok_law_bent (Df : DefAt K mg "_law_bent" s_law_bent ["deck", "thing"]) (g : Gb K mg) (c_law_draw : CalD P w K mg base W 1 "_law_draw" ["deck", "many"] (spDraw DK)) (c_law_turned : CalD P w K mg base W 3 "_law_turned" ["deck", "thing"] spTurned) : ∀ N, CalD P w K mg base W (4 + N) "_law_bent" ["deck", "thing"] (spBent N)
  | 0 => okC (k := 3) Df sc_law_bent (fun ds M k e ⟨_, _, _, _, _, h, _, _, z, _⟩ => absurd z (by omega)) fun f cdv A outer s H E F0 ds M kk e hr ⟨_, _, _, _, _, _, _, _, z, _⟩ => absurd z (by omega)
  | N + 1 => okC (k := 4 + N) Df sc_law_bent (fun ds M k e ⟨_, _, _, _, _, h, _⟩ => by rw [h]; rfl) fun f cdv A outer s H E F0 ds M kk e hr ⟨a, d, n, m, b, hd, hM, hg, hm, hn, hb, hb2, hk⟩ => by
    have c_law_bent := ok_law_bent Df g c_law_draw c_law_turned N
    subst hd
    refine ⟨_, (psd_cons (psd_if (ptd_and (ptd_val (pd_callB cd_isi rfl g.isinstance_ PyProof.Rows.Boot.«isinstance» (pda_cons (pd_var 1) (pda_cons (pd_ty rfl g.tuple_ PyProof.Rows.Boot.«tuple») pda_nil)))) (pwd_and (ptd_cmp (od_ne hr.units0) (pd_var 1) (pd_tup pda_nil) (nomark _)) (pwd_and1 (ptd_cmp od_gt (pd_cal c_law_draw (hr.mono (by omega)) (pda_cons (pd_var 0) (pda_cons pd_int pda_nil))) pd_int (nomark _))))) (psd_cons (psd_set 2 sc_law_bent.nd (pd_cal c_law_draw (hr.mono (by omega)) (pda_cons (pd_var 0) (pda_cons (pd_callB cd_len rfl g.len_ PyProof.Rows.Boot.«len» (pda_cons (pd_var 1) pda_nil)) pda_nil)))) (psd_one (psd_ret (pd_op od_add (pd_op od_add (pd_sl (pd_var 1) pod_none (pod_some (pd_var 2))) (pd_tup (pda_cons (pd_cal c_law_bent (hr.mono (by omega)) (pda_cons (pd_var 0) (pda_cons (pd_ix (pd_var 1) (pd_var 2)) pda_nil))) pda_nil))) (pd_sl (pd_var 1) (pod_some (pd_op od_add (pd_var 2) pd_int)) pod_none))))) psd_nil) (psd_one (psd_ret (pd_cal c_law_turned (hr.mono (by omega)) (pda_cons (pd_var 0) (pda_cons (pd_var 1) pda_nil)))))), ?_⟩
    have sz : ∀ n : Nat, n ≤ 16000000 → n ≤ sizeLine := fun n h => by rw [sizeLine_eq]; omega
    have fin : spTurned [.ref a, d] M kk X0 := ⟨a, d, n, m, b, rfl, hM, hg, hn, hb, hb2, hk⟩
    cases d with
    | tup xs =>
      cases xs with
      | nil => exact ⟨sz _ (by simp), fin⟩
      | cons x0 r =>
        refine rd_ifdraw (n := 4) (fun k hk => hk) (fun k hk => ⟨sz _ (by simp), hk⟩) (fun K hK => ⟨a, 4, rfl, hM, by decide, by decide, hK⟩) ?_ fin
        have hlen : 1 ≤ (x0 :: r).length := by simp
        generalize x0 :: r = xs at *
        obtain ⟨m, rfl, h3, gl⟩ := hg.tup
        have hl := gl.l
        refine ⟨a, _, rfl, hM, by omega, by omega, fun j j0 j1 => ?_⟩
        obtain ⟨t, rfl⟩ := Int.eq_ofNat_of_zero_le j0
        have ht : t < xs.length := by omega
        have e1 : cutD xs none (some (t : Int)) = xs.take t := cut_to xs t
        have e2 : cutD xs (some ((t : Int) + 1)) none = xs.drop (t + 1) := cut_from xs (t + 1)
        have e3 : xs = xs.take t ++ (xs[t] :: xs.drop (t + 1)) := by rw [← List.drop_eq_getElem_cons ht, List.take_append_drop]
        have gp := gl
        rw [e3] at gp
        obtain ⟨ga, gb, gw⟩ := gp.parts
        have gx : Gd (wt xs[t]) m b xs[t] := by
          have := (gl.mem xs[t] (List.getElem_mem ht))
          exact ⟨this.c, Nat.le_refl _, this.d⟩
        have gd_ : GL (wts (xs.drop (t + 1))) m b (xs.drop (t + 1)) := (gl.drop (t + 1)).1 |> fun c => .of c (Nat.le_refl _) (gl.drop (t + 1)).d
        have gw2 : wts (xs[t] :: xs.drop (t + 1)) = wt xs[t] + 2 + wts (xs.drop (t + 1)) := rfl
        have la := ga.l; have ld := gd_.l
        show (match atI xs (t : Int) with | some d => spBent N [.ref a, d] M _ X0 | none => False)
        rw [atN ht]
        refine ⟨a, xs[t], wt xs[t], m, b, rfl, hM, gx, by omega, by omega, hb, hb2, fun y hy => ?_⟩
        have c1 : (cutD xs none (some (t : Int))).length + [y].length ≤ sizeLine := by rw [e1]; exact sz _ (by simp only [List.length_singleton]; omega)
        have c2 : (cutD xs none (some (t : Int)) ++ [y]).length + (cutD xs (some ((t : Int) + 1)) none).length ≤ sizeLine := by rw [e1, e2, List.length_append]; exact sz _ (by simp only [List.length_singleton]; omega)
        refine ⟨sz _ (by simp), c1, c2, ?_⟩
        show kk (.tup (cutD xs none (some (t : Int)) ++ [y] ++ cutD xs (some ((t : Int) + 1)) none)) M
        rw [e1, e2]
        exact hk _ ((((ga.up (Nat.le_refl _) (Nat.le_succ m) (Nat.le_succ b)).append (GL.one hy)).append (gd_.up (Nat.le_refl _) (Nat.le_succ m) (Nat.le_succ b))).tup.up (by omega) (Nat.le_refl _) (Nat.le_refl _))
    | str _ => exact fin
    | int _ => exact fin
    | bl _ => exact fin
    | non => exact fin
    | lst _ => exact fin
    | dic _ _ => exact fin
    | ref _ => have := hg.c; simp [cln] at this
    | ty _ => have := hg.c; simp [cln] at this
/-! ### drawn forms -/
def spDrawn : SpD := fun ds M k _ => ∃ (a : Addr) (p : Int), ds = [.ref a, .int p] ∧ M a = some (.deck DK) ∧ 2 ≤ p ∧ p ≤ 1000 ∧ ∀ x, Gd 250000 3 70 x → k x M
end
end Kx
set_option maxHeartbeats 2000000
namespace Kx
open PySem PySem.Spec L2 DL
mutual
theorem gd_cln {b : Nat} : ∀ (d : D), cln b d = true → wt d ≤ 16000000 → gd d
  | .int _, _, _ => trivial
  | .str _, _, _ => trivial
  | .non, _, _ => trivial
  | .bl _, _, _ => trivial
  | .tup ds, h, w => by
    simp only [cln] at h
    simp only [wt] at w
    have := wts_len ds
    exact ⟨by rw [sizeLine_eq]; omega, gds_cln ds h (by omega)⟩
  | .lst ds, h, w => by
    simp only [cln] at h
    simp only [wt] at w
    have := wts_len ds
    exact ⟨by rw [sizeLine_eq]; omega, gds_cln ds h (by omega)⟩
  | .dic _ _, h, _ => by simp [cln] at h
  | .ref _, h, _ => by simp [cln] at h
  | .ty _, h, _ => by simp [cln] at h
theorem gds_cln {b : Nat} : ∀ (ds : List D), clns b ds = true → wts ds ≤ 16000000 → gds ds
  | [], _, _ => trivial
  | d :: ds, h, w => by
    simp only [clns, Bool.and_eq_true] at h
    simp only [wts] at w
    exact ⟨gd_cln d h.1 (by omega), gds_cln ds h.2 (by omega)⟩
end
theorem fm_empty (f : D → Bool) (c : D) : ∀ xs : List D, (xs.filterMap fun d => if f d = true then none else some c).isEmpty = xs.all f
  | [] => rfl
  | x :: xs => by
    rw [List.filterMap_cons, List.all_cons]
    cases h : f x with
    | true => simpa using fm_empty f c xs
    | false => rfl
theorem Gd.gd {n m b : Nat} {d : D} (g : Gd n m b d) (hn : n ≤ 16000000) : Kx.gd d := gd_cln d g.c (Nat.le_trans g.w hn)
section
variable {P : Program} {w : World} {K : PySem.W.Frag} {mg : Str → Option Value} {base : Heap} {W : Wd}
theorem ok_law_is_integer (Df : DefAt K mg "_law_is_integer" s_law_is_integer ["thing"]) (g : Gb K mg) (hW : W.K = K) : CalD P w K mg base W 1 "_law_is_integer" ["thing"] spIsWhole :=
  okC Df sc_law_is_integer (fun ds M k e ⟨d, h, _⟩ => by rw [h]; rfl) fun f cdv A outer s H E F0 ds M kk e hr ⟨d, hd, ht, hk⟩ => by
    subst hd
    refine ⟨_, (psd_one (psd_ret (pd_and (pd_callB cd_isi rfl g.isinstance_ PyProof.Rows.Boot.«isinstance» (pda_cons (pd_var 0) (pda_cons (pd_ty rfl g.int_ PyProof.Rows.Boot.«int») pda_nil))) (pd_one (pd_not (pd_callB cd_isi rfl g.isinstance_ PyProof.Rows.Boot.«isinstance» (pda_cons (pd_var 0) (pda_cons (pd_ty rfl g.bool_ PyProof.Rows.Boot.«bool») pda_nil)))))))), ?_⟩
    cases d <;> first | exact hk | exact ht.elim
theorem ok_law_is_lamp_row (Df : DefAt K mg "_law_is_lamp_row" s_law_is_lamp_row ["thing"]) (g : Gb K mg) (hW : W.K = K) (c_law_is_integer : CalD P w K mg base W 1 "_law_is_integer" ["thing"] spIsWhole) : CalD P w K mg base W 2 "_law_is_lamp_row" ["thing"] spIsLets :=
  okC Df sc_law_is_lamp_row (fun ds M k e ⟨d, h, _⟩ => by rw [h]; rfl) fun f cdv A outer s H E F0 ds M kk e hr ⟨d, hd, ht, hk⟩ => by
    subst hd
    refine ⟨_, (psd_cons (psd_if (ptd_not (ptd_val (pd_callB cd_isi rfl g.isinstance_ PyProof.Rows.Boot.«isinstance» (pda_cons (pd_var 0) (pda_cons (pd_ty rfl g.tuple_ PyProof.Rows.Boot.«tuple») pda_nil))))) (psd_one (psd_ret pd_bl)) psd_nil) (psd_one (psd_ret (pd_cmp (od_eq hr.units0) (pd_lc (own := [("it", 1)]) rfl sc_law_is_lamp_row.nd (pid_tup hW.symm (pd_var 0)) (blkOk_by (by first | kernel_rfl | rfl)) (sim_name (i := 1) (by decide)) (fun _ _ _ _ _ => pg_name (i := 1) sc_law_is_lamp_row.nd rfl (by first | exact Or.inl rfl | exact Or.inr rfl)) (fun _ _ _ _ _ => ptsd_one (ptd_or (ptd_not (ptd_val (pd_cal c_law_is_integer (hr.mono (by decide)) (pda_cons (pd_var 1) pda_nil)))) (pwd_or1 (ptd_cmp (od_in true) (pd_var 1) (pd_tup (pda_cons pd_int (pda_cons (pd_un ud_neg pd_int) (pda_cons pd_int (pda_cons (pd_un ud_neg pd_int) pda_nil))))) (by with_unfolding_all rfl))))) (fun _ _ _ _ _ => pd_int)) (pd_lst pda_nil) (nomark _))))), ?_⟩
    refine rd_cut (!isTup d) (fun k hk => rd_not (isTup d) (fun k hk => ?_) k hk) (fun hb => ?_) fun hb => ?_
    · cases d <;> first | exact hk | exact ht.elim
    · have e : isLets d = false := by cases d <;> first | rfl | cases hb
      rw [e] at hk; exact hk
    · cases d with
      | tup xs =>
        obtain ⟨hl, hxs⟩ := gd_tup ht
        intro p hp
        refine lc_pure (fun d => if isLet d = true then none else some (.int 1)) hp hl (fun d hd Mx sM kx hx => ?_) ⟨hp, ?_⟩
        · refine el_if (!isLet d) (fun k hk => ?_) (fun hb => ?_) fun hb => ?_
          · have e1 : (!isLet d) = ((!isInt d) || !isLet d) := by cases d <;> rfl
            rw [e1] at hk
            refine rd_or _ _ (fun k hk => rd_not (isInt d) (fun k hk => ⟨d, rfl, hxs d hd, hk⟩) k hk) (fun hi k hk => ?_) k hk
            cases d with
            | int i => exact ⟨by rw [sizeLine_eq]; simp, hk⟩
            | _ => cases hi
          · have hb : isLet d = false := by simpa using hb
            rw [hb] at hx; exact hx
          · have hb : isLet d = true := by simpa using hb
            rw [hb] at hx; exact hx
        · have e : (xs.filterMap fun d => if isLet d = true then none else some (D.int 1)).isEmpty = isLets (.tup xs) := by
            exact fm_empty isLet _ xs
          refine ⟨by rw [sizeLine_eq]; simp, ?_⟩
          rw [← e] at hk
          exact hk
      | _ => cases hb
def spUndone : SpD := fun ds M k _ => ∃ ls : List Int, ds = [.tup (ls.map D.int)] ∧ ls.length ≤ 2000000 ∧ k (.tup ((ls.reverse.map fun l => -l).map D.int)) M
theorem ok_law_undone (Df : DefAt K mg "_law_undone" s_law_undone ["row"]) (g : Gb K mg) (hW : W.K = K) : CalD P w K mg base W 1 "_law_undone" ["row"] spUndone :=
  okC Df sc_law_undone (fun ds M k e ⟨d, h, _⟩ => by rw [h]; rfl) fun f cdv A outer s H E F0 ds M kk e hr ⟨ls, hd, hl, hk⟩ => by
    subst hd
    refine ⟨_, (psd_one (psd_ret (pd_callTy cd_tuple rfl g.tuple_ PyProof.Rows.Boot.«tuple» (pda_cons (pd_lc (own := [("step", 1)]) rfl sc_law_undone.nd (pid_tup hW.symm (pd_revT (pd_var 0))) (blkOk_by (by first | kernel_rfl | rfl)) (sim_name (i := 1) (by decide)) (fun _ _ _ _ _ => pg_name (i := 1) sc_law_undone.nd rfl (by first | exact Or.inl rfl | exact Or.inr rfl)) (fun _ _ _ _ _ => ptsd_nil) (fun _ _ _ _ _ => (pd_un ud_neg (pd_var 1)))) pda_nil)))), ?_⟩
    intro p hp
    refine lc_map (fun d => match d with | .int l => .int (-l) | d => d) hp (by rw [sizeLine_eq]; simp; omega) (fun d hd Mx sM kx hx => ?_) ⟨hp, ?_⟩
    · obtain ⟨l, _, rfl⟩ : ∃ l ∈ ls, D.int l = d := by simpa using hd
      exact el_yes hx
    · have e : ((ls.map D.int).reverse.map fun d => match d with | .int l => D.int (-l) | d => d) = (ls.reverse.map fun l => -l).map D.int := by
        rw [← List.map_reverse, List.map_map, List.map_map]; rfl
      rw [e]
      exact hk
theorem rd_tup2 {ta tb : TED} {δ : Sl} {M : Sto} {x y : D} (h1 : ∀ k : DKt, k x M → ta δ M k) (h2 : ∀ k : DKt, k y M → tb δ M k) (k : DKt) (hk : k (.tup [x, y]) M) : dTup (dCons ta (dCons tb dNil)) δ M k := h1 _ (h2 _ ⟨by rw [sizeLine_eq]; simp, hk⟩)
theorem rd_retF {i j : Nat} {te : TED} {d : EndD} {δ : Sl} {M : Sto} {a : Addr} {x y : D} {m : MO} (e : δ[i]? = some (some (.ref a))) (ej : δ[j]? = some (some x)) (hx : ∀ k : DKt, k y M → te δ M k) (hM : M a = some m) (hm : m.loose = true) (h : d.rt (.tup [x, y]) (delM M a)) : dRet (dForget i (dTup (dCons (dVar j) (dCons te dNil)))) d δ M := by
  unfold dRet dForget
  simp only [e]
  refine rd_tup2 (x := x) (y := y) (fun k hk => rd_var ej hk) hx _ ?_
  simp only [hM]
  exact ⟨hm, h⟩
/-! ### the law's form -/
def formL (L : DI) : D := .tup ((sortU (L.map (·.1))).filterMap fun r => if getI L r = 0 then none else some (.tup [.int r, .int (getI L r)]))
def spLForm : SpD := fun ds M k _ => ∃ p ls, ds = [.int p, .tup (ls.map D.int)] ∧ 0 < p ∧ ls.length ≤ 2000000 ∧ k (.tup [.int (walkW p ls).1, formL (walkW p ls).2]) M
theorem rd_sortedA {L : DI} {a : Addr} {M : Sto} {k : DKt} (hM : M a = some (.dic (kvsOf L))) (hn : (L.map (·.1)).Nodup) (hl : L.length ≤ sizeLine) (hk : k (.lst ((sortU (L.map (·.1))).map D.int)) M) : rSortedA [.ref a] M k := by
  have e : dicOf M (.ref a) = some (kvsOf L) := by unfold dicOf; simp only [hM]
  unfold rSortedA
  simp only [e, intKeys_kvs]
  refine ⟨by rw [List.length_map]; exact hl, fun ns h1 h2 => ?_⟩
  rw [sorted_is h1 h2 hn]
  exact hk
theorem ok_law_form (Df : DefAt K mg "_law_form" s_law_form ["p", "row"]) (g : Gb K mg) (hW : W.K = K) : CalD P w K mg base W 1 "_law_form" ["p", "row"] spLForm :=
  okC Df sc_law_form (fun ds M k e ⟨_, _, h, _⟩ => by rw [h]; rfl) fun f cdv A outer s H E F0 ds M kk e hr ⟨p, ls, hd, hp, hl, hk⟩ => by
    subst hd
    refine ⟨_, (psd_cons (psd_asg (pd_tup (pda_cons pd_dnew (pda_cons pd_int pda_nil))) (pgd_tup rfl (pgsd_cons (pgd_name 3 sc_law_form.nd) (pgsd_cons (pgd_name 4 sc_law_form.nd) pgsd_nil)))) (psd_cons (psd_for PassesOwn.never rfl (pid_tup hW.symm (pd_var 1)) (pgd_name 2 sc_law_form.nd) (psd_one (psd_if (ptd_or (ptd_cmp (od_eq hr.units0) (pd_var 2) pd_int (nomark _)) (pwd_or1 (ptd_cmp (od_eq hr.units0) (pd_var 2) (pd_un ud_neg pd_int) (nomark _)))) (psd_one (psd_set 4 sc_law_form.nd (pd_op od_add (pd_var 4) (pd_var 2)))) (psd_one (psd_dput (hu1 hr) (pd_var 3) (pd_var 4) (pd_op od_mod (pd_callTy cd_int rfl g.int_ PyProof.Rows.Boot.«int» (pda_cons (pd_op od_add (pd_dget2 (hu1 hr) (pd_var 3) (pd_var 4) pd_int) (pd_op od_div (pd_var 2) pd_int)) pda_nil)) (pd_var 0))))))) (psd_one (psd_ret (pd_forget 3 (pd_tup (pda_cons (pd_var 4) (pda_cons (pd_callTy cd_tuple rfl g.tuple_ PyProof.Rows.Boot.«tuple» (pda_cons (pd_lc (own := [("at", 5)]) rfl sc_law_form.nd (pid_list hW.symm (pd_callB (cd_sortedA rfl) rfl g.sorted_ PyProof.Rows.Boot.«sorted» (pda_cons (pd_var 3) pda_nil))) (blkOk_by (by first | kernel_rfl | rfl)) (sim_name (i := 5) (by decide)) (fun _ _ _ _ _ => pg_name (i := 5) sc_law_form.nd rfl (by first | exact Or.inl rfl | exact Or.inr rfl)) (fun _ _ _ _ _ => ptsd_one (ptd_cmp (od_ne hr.units0) (pd_dget (hu1 hr) (pd_var 3) (pd_var 5)) pd_int (nomark _))) (fun _ _ _ _ _ => (pd_tup (pda_cons (pd_var 5) (pda_cons (pd_dget (hu1 hr) (pd_var 3) (pd_var 5)) pda_nil))))) pda_nil)) pda_nil)))))))), ?_⟩
    intro a ha
    refine ⟨by rw [sizeLine_eq]; simp, rfl, rd_tgt2 ?_⟩
    dsimp only
    refine rd_for (ds := ls.map D.int) (M1 := updM M a (.dic [])) (fun r δ M' => ∃ (rs : List Int) (s : Int × DI) (x : Option D), r = rs.map D.int ∧ δ = [some (.int p), some (.tup (ls.map D.int)), x, some (.ref a), some (.int s.1), none] ∧ M' = updM M a (.dic (kvsOf s.2)) ∧
      rs.foldl (stepW p) s = walkW p ls ∧ (s.2.map (·.1)).Nodup ∧ s.2.length + rs.length ≤ 2000000) (fun k hk => hk) ?_ ?_ ?_
    · exact ⟨ls, (0, []), none, rfl, rfl, rfl, rfl, .nil, by simpa using hl⟩
    · rintro x r δ M' K' ⟨rs, s, y, hr1, rfl, rfl, hf, hn, hln⟩ hK
      cases rs with
      | nil => cases hr1
      | cons l rs =>
        obtain ⟨rfl, rfl⟩ := List.cons.inj hr1
        obtain ⟨hn2, hl2⟩ := step_ok (p := p) (l := l) hn
        refine rd_if (decide (l = 1) || decide (l = -1)) (fun k hk => rd_or (decide (l = 1)) (decide (l = -1)) (fun k hk => hk) (fun _ k hk => hk) k hk) (fun hb => ?_) fun hb => ?_
        · have hb2 : l = 1 ∨ l = -1 := by simpa using hb
          have es : stepW p s l = (s.1 + l, s.2) := if_pos hb2
          refine hK _ _ ⟨rs, stepW p s l, some (.int l), rfl, ?_, ?_, hf, hn2, by simp at hln ⊢; omega⟩
          · rw [es]; rfl
          · rw [es]
        · have hb2 : ¬ (l = 1 ∨ l = -1) := by simpa using hb
          have es : stepW p s l = (s.1, putI s.2 s.1 ((getI s.2 s.1 + l / 2) % p)) := if_neg hb2
          refine rd_dput (a := a) (L := s.2) (j := s.1) (v := (getI s.2 s.1 + l / 2) % p) (fun k hk => ?_) (fun k hk => hk) (fun k hk => hk) updM_same ?_ ?_
          · exact rd_modI _ p (fun k hk => rd_intI _ (fun k hk => rd_addI (getI s.2 s.1) _ (fun k hk => rd_dget2 (a := a) (L := s.2) (j := s.1) (fun k hk => hk) (fun k hk => hk) (fun k hk => hk) updM_same _ hk) (fun k hk => rd_divI l 2 (fun k hk => hk) (fun k hk => hk) ⟨by decide, by decide⟩ k hk) k hk) k hk) (fun k hk => hk) hp _ hk
          · rw [sizeLine_eq]; simp at hln; omega
          · rw [updM_upd]
            refine hK _ _ ⟨rs, stepW p s l, some (.int l), rfl, ?_, ?_, hf, hn2, by simp at hln ⊢; omega⟩
            · rw [es]; rfl
            · rw [es]
    · rintro δ M' ⟨rs, s, y, hr1, rfl, rfl, hf, hn, hln⟩
      cases rs with
      | cons _ _ => cases hr1
      | nil =>
        have hs : s = walkW p ls := hf
        subst hs
        have hln : (walkW p ls).2.length ≤ 2000000 := by simpa using hln
        generalize walkW p ls = s at *
        refine rd_retF (i := 3) (j := 4) (x := .int s.1) (y := formL s.2) (a := a) (m := .dic (kvsOf s.2)) rfl rfl (fun k hk => ?_) updM_same rfl (by rw [updM_del ha]; exact hk)
        refine rd_cb1 k (fun k hk => rd_lcf (fun d => match d with | .int r => (if getI s.2 r = 0 then none else some (D.tup [.int r, .int (getI s.2 r)])) | _ => none) (fun k hk => rd_itL (fun k hk => rd_sortedA (k := k) updM_same hn (by rw [sizeLine_eq]; omega) hk) k hk) ?_ (fun d hd Mx sM kx hx => ?_) k hk) ?_
        · have := sortU_len (s.2.map (·.1))
          rw [sizeLine_eq]; simp at this ⊢; omega
        · obtain ⟨r, hr', rfl⟩ := List.mem_map.mp hd
          have hr2 : r ∈ s.2.map (·.1) := mem_sortU.mp hr'
          have e := sM a _ updM_same
          have hx : kx (if getI s.2 r = 0 then none else some (D.tup [.int r, .int (getI s.2 r)])) Mx := hx
          refine el_if (!decide (getI s.2 r = 0)) (fun k hk => ?_) (fun hb => ?_) fun hb => ?_
          · exact rd_dget (y := .int r) (fun k hk => hk) (fun k hk => hk) rfl e (kvs_at hr2) _ hk
          · rw [if_neg (by simpa using hb)] at hx
            refine rd_tup2 (x := .int r) (y := .int (getI s.2 r)) (fun k hk => hk) (fun k hk => rd_dget (y := .int r) (fun k hk => hk) (fun k hk => hk) rfl e (kvs_at hr2) k hk) _ ?_
            exact hx
          · rw [if_pos (by simpa using hb)] at hx
            exact hx
        · show k (.tup _) _
          rw [List.filterMap_map]
          exact hk
end
end Kx
set_option maxHeartbeats 2000000
namespace Kx
open PySem PySem.Spec L2 DL
section
variable {P : Program} {w : World} {K : PySem.W.Frag} {mg : Str → Option Value} {base : Heap} {W : Wd}
def spDeck (S : List (Addr × List Int)) : SpD := fun ds M k _ => ∃ (b : Addr) (ns : List Int), ds = [.ref b, .int 83] ∧ (b, ns) ∈ S ∧ ∀ (a l : Addr) (cells : List Int) (m : Int), M l = none → M a = none → a ≠ l → cells.length ≤ 63 →
  k (.ref a) (updM (updM M l (.lst (cells.map D.int))) a (.dic [(.inr "left", .ref l), (.inr "mixed", .int m), (.inr "draws", .int 0)]))
theorem ok_law_deck (Df : DefAt K mg "_law_deck" s_law_deck ["script", "number"]) (g : Gb K mg) (hW : W.K = K) : CalD P w K mg base W 1 "_law_deck" ["script", "number"] (spDeck W.S) :=
  okC Df sc_law_deck (fun ds M k e ⟨_, _, h, _⟩ => by rw [h]; rfl) fun f cdv A outer s H E F0 ds M kk e hr ⟨b, ns, hd, hS, hk⟩ => by
    subst hd
    refine ⟨_, (psd_cons (psd_set 2 sc_law_deck.nd (pd_op od_add pd_int (pd_var 1))) (psd_cons (psd_for PassesOwn.never rfl (pid_list hW.symm (pd_slS hW.symm (pd_var 0) pod_none (pod_some pd_int))) (pgd_name 3 sc_law_deck.nd) (psd_one (psd_set 2 sc_law_deck.nd (pd_op od_mod (pd_callTy cd_int rfl g.int_ PyProof.Rows.Boot.«int» (pda_cons (pd_op od_add (pd_op od_add (pd_op od_mul (pd_var 2) pd_int) (pd_op od_mod (pd_callTy cd_int rfl g.int_ PyProof.Rows.Boot.«int» (pda_cons (pd_var 3) pda_nil)) pd_int)) (pd_var 1)) pda_nil)) pd_int)))) (psd_one (psd_ret (pd_dispM (ppd_cons (kk := .inr "left") pd_str (pd_revLM (pd_callTy cd_list rfl g.list_ PyProof.Rows.Boot.«list» (pda_cons (pd_slS hW.symm (pd_var 0) pod_none (pod_some pd_int)) pda_nil))) (ppd_cons (kk := .inr "mixed") pd_str (pd_var 2) (ppd_cons (kk := .inr "draws") pd_str pd_int ppd_nil))) (by show ([.inr "left", .inr "mixed", .inr "draws"] : List Key).Nodup; decide +kernel) (h16 := by show 3 ≤ 15; decide)))))), ?_⟩
    have cut : cutD (ns.map D.int) none (some (63 : Int)) = (ns.take 63).map D.int := by
      rw [List.map_take]; exact cut_to _ 63
    refine rd_seqx (x := .int 10890083) (fun k hk => hk) ?_
    refine rd_for (ds := (ns.take 63).map D.int) (M1 := M) (fun r δ M' => ∃ (rs : List Int) (m : Int) (y : Option D), r = rs.map D.int ∧ δ = [some (.ref b), some (.int 83), some (.int m), y] ∧ M' = M) (fun k hk => ⟨ns, hS, by rw [cut]; exact hk⟩) ⟨_, _, none, rfl, rfl, rfl⟩ ?_ ?_
    · rintro x r δ M' K' ⟨rs, m, y, hr1, rfl, rfl⟩ hK
      cases rs with
      | nil => cases hr1
      | cons c rs =>
        obtain ⟨rfl, rfl⟩ := List.cons.inj hr1
        refine rd_set (x := .int _) (fun k hk => rd_modI _ 2147483629 (fun k hk => rd_intI _ (fun k hk => rd_addI _ 83 (fun k hk => rd_addI _ _ (fun k hk => rd_mulI m 69621 (fun k hk => hk) (fun k hk => hk) (mulV (by decide) (by decide)) k hk) (fun k hk => rd_modI c 2147483563 (fun k hk => rd_intI c (fun k hk => hk) k hk) (fun k hk => hk) (by decide) k hk) k hk) (fun k hk => hk) k hk) k hk) (fun k hk => hk) (by decide) k hk) ?_
        exact hK _ _ ⟨rs, _, some (.int c), rfl, rfl, rfl⟩
    · rintro δ M' ⟨rs, m, y, _, rfl, rfl⟩
      intro p hp
      refine ⟨ns, hS, ?_⟩
      rw [cut]
      intro l hl
      have hlp : l ≠ p := fun z => by rw [z, updM_same] at hl; cases hl
      have hl2 : M' l = none := by rw [updM_ne hlp] at hl; exact hl
      refine ⟨updM M' l (.lst ((ns.take 63).reverse.map D.int)), by rw [updM_ne hlp.symm]; exact hp, ?_, hk p l (ns.take 63).reverse m hl2 hp hlp.symm (by simp; omega)⟩
      funext c
      rw [← List.map_reverse]
      unfold updM
      by_cases h1 : c = l
      · subst h1; simp [hlp]
      · simp [h1]
end
end Kx
set_option maxHeartbeats 2000000
namespace Kx
open PySem PySem.Spec L2 DL
/-- what _law_lamps_tried makes of its lambda: for every e that lets the two known exceptions go on -/
def triedT (CL CN : Addr) : TrD := fun tl M kk => ∀ e : XKD, (∀ (d : D) (M' : Sto), kk (.tup [.str "BadLetters", .str "StileError", d]) M' → e CL [("thing", d)] M') → (∀ (d : D) (M' : Sto), kk (.tup [.str "BadNumber", .str "StileError", d]) M' → e CN [("thing", d)] M') →
  tl e M fun v M1 => kk (.tup [.str "returned", v]) M1
structure Xc (K : PySem.W.Frag) (CL CN CS SE : Addr) : Prop where
  xl : Txd K CL "thing"
  xn : Txd K CN "thing"
  ml : PySem.W.exmAny K (.ref CL) [.ref CL, .ref CN, .ref CS] = some true
  mn : PySem.W.exmAny K (.ref CN) [.ref CL, .ref CN, .ref CS] = some true
  l1 : PySem.W.kitOne K (.ref CL) (.ref CL) = some true
  l2 : PySem.W.kitOne K (.ref CL) (.ref CN) = some false
  l3 : PySem.W.kitOne K (.ref CL) (.ref CS) = some false
  l4 : PySem.W.kitOne K (.ref CL) (.ref SE) = some true
  l5 : PySem.W.kitOne K (.ref CL) (.type "ValueError") = some false
  n1 : PySem.W.kitOne K (.ref CN) (.ref CL) = some false
  n2 : PySem.W.kitOne K (.ref CN) (.ref CN) = some true
  n3 : PySem.W.kitOne K (.ref CN) (.ref CS) = some false
  n4 : PySem.W.kitOne K (.ref CN) (.ref SE) = some true
  n5 : PySem.W.kitOne K (.ref CN) (.type "ValueError") = some false
theorem pg_K {X : Cx} {tg : Expr} {K K' : PySem.W.Frag} {n : Nat} {u : TGs} (e : K' = K) (h : PG X tg (gTup K n u)) : PG X tg (gTup K' n u) := e ▸ h
theorem wcl_one {out : Sl → XKD} {d : EndD} {c : ClD} {i : Nat} {δ : Sl} {C : Addr} {fs : List (Str × D)} {M : Sto} (h : c.m C = some true) (hi : c.i = some i) (k : ∀ a, c.ts a C fs (goneD i d) (δ.set i (some (.ref a))) M) : wClD out d [c] δ C fs M := by
  unfold wClD
  rw [h]
  simp only [hi]
  exact k
section
variable {W : Wd} {X : Cx}
theorem gives_tried {CL CN CS SE : Addr} {k : Nat} {g : Addr} {cdg : Value} (hW : W.K = X.K) (xc : Xc X.K CL CN CS SE) (c1 : X.mg "BadLetters" = some (.ref CL)) (c2 : X.mg "BadNumber" = some (.ref CN)) (c3 : X.mg "BadShow" = some (.ref CS)) (c4 : X.mg "StileError" = some (.ref SE))
    (m1 : X.mg "isinstance" = none) (m2 : X.mg "tuple" = none) (m3 : X.mg "ValueError" = none) : GivesD W X (k + 1) ["call", "told", "e", "words", "word", "is_it"] "_law_lamps_tried" (defScope s_law_lamps_tried) g cdg (defBody s_law_lamps_tried) "call" (triedT CL CN) := by
  intro f s H F0 M kk tl hr hcall ht
  have nd := sc_law_lamps_tried.nd
  have n1 : Names (cxOf CX0 X.prog X.w X.K X.mg X.base ["call", "told", "e", "words", "word", "is_it"] "_law_lamps_tried" (defScope s_law_lamps_tried) g cdg X.A X.stack s H E0).nox "BadLetters" (.ref CL) := ⟨by rfl, by decide, .inl c1⟩
  have n2 : Names (cxOf CX0 X.prog X.w X.K X.mg X.base ["call", "told", "e", "words", "word", "is_it"] "_law_lamps_tried" (defScope s_law_lamps_tried) g cdg X.A X.stack s H E0).nox "BadNumber" (.ref CN) := ⟨by rfl, by decide, .inl c2⟩
  have n3 : Names (cxOf CX0 X.prog X.w X.K X.mg X.base ["call", "told", "e", "words", "word", "is_it"] "_law_lamps_tried" (defScope s_law_lamps_tried) g cdg X.A X.stack s H E0).nox "BadShow" (.ref CS) := ⟨by rfl, by decide, .inl c3⟩
  refine ⟨_, psd_cons (psd_set 1 nd pd_non) (psd_cons (psd_try (eS := fun _ => X0) nd rz_none (fun pn xe F1 e le hR2 po => psd_one (psd_set 1 nd (pd_tup (pda_cons pd_str (pda_cons (hcall pn xe F1 e _ _ le hR2) pda_nil)))))
    (cld_as (i := 2) (l := []) (tst_tup3 n1 n2 n3) (fun a oe C dd pn F0 fs vs z hf hot hd hr => psd_need (p := Txd X.K C "thing") fun T =>
      psd_cons (psd_set 3 nd (pd_lst (pda_cons (pd_tup (pda_cons pd_str (pda_cons (pd_isE T.1 z hf hd m1 rfl (pda_cons (pd_var 2) (pda_cons (pd_globR rfl c1) pda_nil))) pda_nil))) (pda_cons (pd_tup (pda_cons pd_str (pda_cons (pd_isE T.1 z hf hd m1 rfl (pda_cons (pd_var 2) (pda_cons (pd_globR rfl c2) pda_nil))) pda_nil))) pda_nil))))
      (psd_cons (psd_set 3 nd (pd_op od_add (pd_var 3) (pd_lst (pda_cons (pd_tup (pda_cons pd_str (pda_cons (pd_isE T.1 z hf hd m1 rfl (pda_cons (pd_var 2) (pda_cons (pd_globR rfl c3) pda_nil))) pda_nil))) (pda_cons (pd_tup (pda_cons pd_str (pda_cons (pd_isE T.1 z hf hd m1 rfl (pda_cons (pd_var 2) (pda_cons (pd_globR rfl c4) pda_nil))) pda_nil))) pda_nil)))))
      (psd_cons (psd_set 3 nd (pd_op od_add (pd_var 3) (pd_lst (pda_cons (pd_tup (pda_cons pd_str (pda_cons (pd_isE T.1 z hf hd m1 rfl (pda_cons (pd_var 2) (pda_cons (pd_ty (n := "ValueError") rfl m3 (by decide +kernel)) pda_nil))) pda_nil))) pda_nil))))
      (psd_one (psd_set 1 nd (pd_op od_add (pd_callTy cd_tuple rfl m2 PyProof.Rows.Boot.«tuple» (pda_cons (pd_lcB (own := [("word", 4), ("is_it", 5)]) hot nd (pidB_list hW.symm (pd_var 3)) (blkOk_by (by first | kernel_rfl | rfl)) (sim_tup (n := 2) (sims_cons (sim_name (i := 4) (by decide)) (sims_cons (sim_name (i := 5) (by decide)) sims_nil)))
        (fun _ _ _ _ _ hot2 => pg_K hW (pgB_tup hot2 (pgs_cons (pg_name (i := 4) nd rfl (by first | exact Or.inl rfl | exact Or.inr rfl)) (pgs_cons (pg_name (i := 5) nd rfl (by first | exact Or.inl rfl | exact Or.inr rfl)) pgs_nil)))) (fun _ _ _ _ _ => ptsd_one (ptd_val (pd_var 5))) (fun _ _ _ _ _ => pd_var 4)) pda_nil))
        (pd_tup (pda_cons (pd_xf T.1 T.2 z hf hd hr (pd_var 2)) pda_nil)))))))) .nil)) (psd_one (psd_ret (pd_var 1)))), ?_⟩
  have sz : ∀ n : Nat, n ≤ 1000 → n ≤ sizeLine := fun n h => by rw [sizeLine_eq]; omega
  have sl : ∀ n : Nat, n < 1000 → n < sizeLine := fun n h => by rw [sizeLine_eq]; omega
  refine ⟨rfl, cast (congrArg (tl _ M) ?_) (ht _ ?_ ?_)⟩
  · funext v M1
    exact propext ⟨fun h => ⟨sz _ (by simp), h⟩, fun h => h.2⟩
  · intro d M' hk
    refine wcl_one (i := 2) xc.ml rfl fun a => ?_
    refine ⟨xc.xl, rfl, true, xc.l1, sz _ (by simp), rfl, false, xc.l2, sz _ (by simp), sz _ (by simp), ?_⟩
    refine ⟨rfl, false, xc.l3, sz _ (by simp), rfl, true, xc.l4, sz _ (by simp), sz _ (by simp), sz _ (by simp), ?_⟩
    refine ⟨rfl, false, xc.l5, sz _ (by simp), sz _ (by simp), sz _ (by simp), fun p hp => ?_⟩
    refine ⟨rfl, sl _ (by simp), M', hp, rfl, rfl, M', hp, rfl, rfl, M', hp, rfl, rfl, sl _ (by simp), M', hp, rfl, rfl, M', hp, rfl, hp, rfl, sz _ (by simp), sz _ (by simp), ?_⟩
    exact hk
  · intro d M' hk
    refine wcl_one (i := 2) xc.mn rfl fun a => ?_
    refine ⟨xc.xn, rfl, false, xc.n1, sz _ (by simp), rfl, true, xc.n2, sz _ (by simp), sz _ (by simp), ?_⟩
    refine ⟨rfl, false, xc.n3, sz _ (by simp), rfl, true, xc.n4, sz _ (by simp), sz _ (by simp), sz _ (by simp), ?_⟩
    refine ⟨rfl, false, xc.n5, sz _ (by simp), sz _ (by simp), sz _ (by simp), fun p hp => ?_⟩
    refine ⟨rfl, M', hp, rfl, rfl, sl _ (by simp), M', hp, rfl, rfl, M', hp, rfl, rfl, sl _ (by simp), M', hp, rfl, rfl, M', hp, rfl, hp, rfl, sz _ (by simp), sz _ (by simp), ?_⟩
    exact hk
end
end Kx
set_option maxHeartbeats 2000000
namespace Kx
open PySem PySem.Spec L2 DL
/-! ### what repr is asked of, by deciding -/
def rpB (d : D) : Bool := okP d && ((toP d).showable && ((!(toP d).hasDict || noL d) && (decide ((shown d).length ≤ 10000) && decide ((toP d).depth ≤ 50))))
theorem rpB_ok {d : D} (h : rpB d = true) : RpOk d := by
  unfold rpB at h
  simp only [Bool.and_eq_true] at h
  obtain ⟨h1, h2, h3, h4, h5⟩ := h
  refine ⟨h1, h2, fun z => ?_, by have := of_decide_eq_true h4; rw [sizeLine_eq]; omega, of_decide_eq_true h5⟩
  rw [z] at h3
  simpa using h3
theorem odd_rp : ∀ o ∈ oddMods, RpOk (.tup [.str "BadNumber", .str "StileError", o]) := by
  have h : oddMods.all (fun o => rpB (.tup [.str "BadNumber", .str "StileError", o])) = true := by decide +kernel
  exact fun o ho => rpB_ok (List.all_eq_true.mp h o ho)
def gdB : D → Bool
  | .tup ds => decide (ds.length ≤ 1000) && gdsB ds
  | .lst ds => decide (ds.length ≤ 1000) && gdsB ds
  | .dic ks ds => decide (ks.length = ds.length) && gdsB ds
  | .ref _ => false
  | .ty _ => false
  | _ => true
where gdsB : List D → Bool
  | [] => true
  | d :: ds => gdB d && gdsB ds
mutual
theorem gdB_ok : ∀ (d : D), gdB d = true → gd d
  | .tup ds, h => by
    simp only [gdB, Bool.and_eq_true] at h
    have := of_decide_eq_true h.1
    exact ⟨by rw [sizeLine_eq]; omega, gdsB_ok ds h.2⟩
  | .lst ds, h => by
    simp only [gdB, Bool.and_eq_true] at h
    have := of_decide_eq_true h.1
    exact ⟨by rw [sizeLine_eq]; omega, gdsB_ok ds h.2⟩
  | .dic ks ds, h => by
    simp only [gdB, Bool.and_eq_true] at h
    exact ⟨of_decide_eq_true h.1, gdsB_ok ds h.2⟩
  | .ref _, h => by simp [gdB] at h
  | .ty _, h => by simp [gdB] at h
  | .non, _ => trivial
  | .bl _, _ => trivial
  | .int _, _ => trivial
  | .str _, _ => trivial
theorem gdsB_ok : ∀ (ds : List D), gdB.gdsB ds = true → gds ds
  | [], _ => trivial
  | d :: ds, h => by
    simp only [gdB.gdsB, Bool.and_eq_true] at h
    exact ⟨gdB_ok d h.1, gdsB_ok ds h.2⟩
end
theorem odd_gd : ∀ o ∈ oddMods, gd o ∧ okMod o = false := by
  have h : oddMods.all (fun o => gdB o && !okMod o) = true := by decide +kernel
  intro o ho
  have h2 := List.all_eq_true.mp h o ho
  rw [Bool.and_eq_true] at h2
  exact ⟨gdB_ok o h2.1, by simpa using h2.2⟩
/-! ### a thing that is told of -/
structure Rp2 (d : D) : Prop where
  g : gd d
  r : RpOk d
  t : RpOk (.tup [.str "BadLetters", .str "StileError", d])
theorem odds_rp : ∀ o ∈ odds, Rp2 o := by
  have h : odds.all (fun o => gdB o && (rpB o && rpB (.tup [.str "BadLetters", .str "StileError", o]))) = true := by decide +kernel
  intro o ho
  have h2 := List.all_eq_true.mp h o ho
  rw [Bool.and_eq_true, Bool.and_eq_true] at h2
  exact ⟨gdB_ok o h2.1, rpB_ok h2.2.1, rpB_ok h2.2.2⟩
theorem Gd.two {n m b : Nat} {d : D} (g : Gd n m b d) (hb : b ≤ 1900) (hn : n ≤ 15000000) (hm : m ≤ 49) : Rp2 d := by
  refine ⟨g.gd (by omega), g.rp hb (by omega) (by omega), ?_⟩
  have s : ∀ x ∈ [("BadLetters" : Str), "StileError"], (reprText x).length ≤ 100 := by decide +kernel
  have g1 : Gd 100 0 b (.str "BadLetters") := ⟨rfl, s _ (by simp), Nat.zero_le _⟩
  have g2 : Gd 100 0 b (.str "StileError") := ⟨rfl, s _ (by simp), Nat.zero_le _⟩
  exact ((GL.cons (g1.up (Nat.le_refl _) (Nat.zero_le m) (Nat.le_refl _)) (GL.cons (g2.up (Nat.le_refl _) (Nat.zero_le m) (Nat.le_refl _)) (GL.one g))).tup).rp hb (by omega) (by omega)
/-! ### the law's form is small -/
theorem mem_putI {L : DI} {k v : Int} {q : Int × Int} (h : q ∈ putI L k v) : q ∈ L ∨ q = (k, v) := by
  unfold putI at h
  split at h
  · obtain ⟨r, hr, e⟩ := List.mem_map.mp h
    split at e
    · rename_i hk; subst e; subst hk; exact .inr rfl
    · subst e; exact .inl hr
  · rcases List.mem_append.mp h with h | h
    · exact .inl h
    · exact .inr (List.mem_singleton.mp h)
def SmallS (p : Int) (B : Nat) (s : Int × DI) : Prop := s.1.natAbs ≤ B ∧ ∀ q ∈ s.2, q.1.natAbs ≤ B ∧ 0 ≤ q.2 ∧ q.2 < p
theorem walk_small {p : Int} (hp : 0 < p) {ls : List Int} (h : ∀ l ∈ ls, isLtr l) : SmallS p ls.length (walkW p ls) := by
  have gen : ∀ (ls : List Int) (s : Int × DI) (B : Nat), (∀ l ∈ ls, isLtr l) → s.1.natAbs + ls.length ≤ B → (∀ q ∈ s.2, q.1.natAbs ≤ B ∧ 0 ≤ q.2 ∧ q.2 < p) → SmallS p B (ls.foldl (stepW p) s) := by
    intro ls
    induction ls with
    | nil => intro s B _ h1 h2; exact ⟨by simpa using h1, h2⟩
    | cons l ls ih =>
      intro s B hl h1 h2
      have hl0 := hl l List.mem_cons_self
      have h1 : s.1.natAbs + (ls.length + 1) ≤ B := by simpa using h1
      refine ih _ _ (fun x hx => hl x (List.mem_cons_of_mem _ hx)) ?_ ?_
      · unfold stepW
        split
        · show (s.1 + l).natAbs + _ ≤ _
          rename_i h3; omega
        · show s.1.natAbs + _ ≤ _; omega
      · unfold stepW
        split
        · exact h2
        · intro q hq
          rcases mem_putI hq with hq | rfl
          · exact h2 q hq
          · exact ⟨by show s.1.natAbs ≤ B; omega, Int.emod_nonneg _ (by omega), Int.emod_lt_of_pos _ hp⟩
  exact gen ls (0, []) _ h (by simp) (by simp)
theorem getI_small {L : DI} {p : Int} (hp : 0 < p) (h : ∀ q ∈ L, 0 ≤ q.2 ∧ q.2 < p) (r : Int) : 0 ≤ getI L r ∧ getI L r < p := by
  unfold getI
  cases e : L.find? fun q => decide (q.1 = r) with
  | none => exact ⟨by simp, by simpa using hp⟩
  | some q => exact h q (List.mem_of_find?_eq_some e)
theorem fm_len {α β : Type} (f : α → Option β) (l : List α) : (l.filterMap f).length ≤ l.length := List.length_filterMap_le f l
theorem form_gd {p : Int} (hp : 0 < p) (hp2 : p ≤ 1000) {ls : List Int} (h : ∀ l ∈ ls, isLtr l) (hl : ls.length ≤ 60) : GL 241000 1 70 ((sortU ((walkW p ls).2.map (·.1))).filterMap fun r => if getI (walkW p ls).2 r = 0 then none else some (D.tup [.int r, .int (getI (walkW p ls).2 r)])) := by
  obtain ⟨s1, s2⟩ := walk_small hp h
  have hlen : (sortU ((walkW p ls).2.map (·.1))).length ≤ 60 := by
    have h1 := sortU_len ((walkW p ls).2.map (·.1))
    have h2 := (walk_ok p ls).2
    simp at h1; omega
  have hk : ∀ r ∈ sortU ((walkW p ls).2.map (·.1)), r.natAbs ≤ 60 := fun r hr => by
    obtain ⟨q, hq, rfl⟩ := List.mem_map.mp (mem_sortU.mp hr)
    have := (s2 q hq).1
    omega
  have sm : (1000 : Nat) < 2 ^ 70 := by decide
  have gen : ∀ l : List Int, (∀ r ∈ l, r.natAbs ≤ 60) → GL (4009 * l.length) 1 70 (l.filterMap fun r => if getI (walkW p ls).2 r = 0 then none else some (D.tup [.int r, .int (getI (walkW p ls).2 r)])) := by
    intro l
    induction l with
    | nil => intro _; exact GL.nil
    | cons r l ih =>
      intro hr
      have ih := ih fun x hx => hr x (List.mem_cons_of_mem _ hx)
      have h0 := hr r List.mem_cons_self
      obtain ⟨g0, g1⟩ := getI_small hp (fun q hq => (s2 q hq).2) r
      rw [List.filterMap_cons]
      by_cases hz : getI (walkW p ls).2 r = 0
      · rw [if_pos hz]; exact ih.mono (by simp; omega) (Nat.le_refl _)
      · rw [if_neg hz]
        have a1 : Gd 2000 0 70 (.int r) := .int (by omega)
        have a2 : Gd 2000 0 70 (.int (getI (walkW p ls).2 r)) := .int (by omega)
        exact (GL.cons (GL.cons a1 (GL.one a2)).tup ih).mono (by simp; omega) (Nat.le_refl _)
  exact (gen _ hk).mono (by omega) (Nat.le_refl _)
def formT (p : Int) (ls : List Int) : D := .tup [.int (walkW p ls).1, formL (walkW p ls).2]
theorem form_big {p : Int} (hp : 0 < p) (hp2 : p ≤ 1000) {ls : List Int} (h : ∀ l ∈ ls, isLtr l) (hl : ls.length ≤ 60) : Gd 250000 3 70 (formT p ls) ∧ Gd 241003 2 70 (formL (walkW p ls).2) := by
  have g := form_gd hp hp2 h hl
  obtain ⟨s1, s2⟩ := walk_small hp h
  have sm : (1000 : Nat) < 2 ^ 70 := by decide
  have a1 : Gd 2000 2 70 (.int (walkW p ls).1) := .int (by omega)
  have gt : Gd 241003 2 70 (formL (walkW p ls).2) := g.tup
  exact ⟨(GL.cons a1 (GL.one gt)).tup.up (by omega) (Nat.le_refl _) (Nat.le_refl _), gt⟩
theorem ret_rp {p : Int} (hp : 0 < p) (hp2 : p ≤ 1000) {ls : List Int} (h : ∀ l ∈ ls, isLtr l) (hl : ls.length ≤ 60) : RpOk (.tup [.str "returned", formT p ls]) := by
  have g := (form_big hp hp2 h hl).1
  have s : (reprText ("returned" : Str)).length ≤ 100 := by decide +kernel
  have g1 : Gd 100 0 70 (.str "returned") := ⟨rfl, s, Nat.zero_le _⟩
  exact ((GL.cons (g1.up (Nat.le_refl _) (Nat.zero_le 3) (Nat.le_refl _)) (GL.one g)).tup).rp (by decide) (by decide) (by decide)
theorem lets_ltr {ls : List Int} (h : isLets (.tup (ls.map D.int)) = true) : ∀ l ∈ ls, isLtr l := by
  intro l hl
  have h : (ls.map D.int).all isLet = true := h
  have h2 : decide (l ∈ [1, -1, 2, -2]) = true := List.all_eq_true.mp h (.int l) (List.mem_map.mpr ⟨l, hl, rfl⟩)
  have h3 := of_decide_eq_true h2
  simp only [List.mem_cons, List.not_mem_nil, or_false] at h3
  unfold isLtr; omega
theorem rp_bl (b : Bool) : RpOk (.bl b) := by cases b <;> exact rpB_ok (by decide +kernel)
end Kx
set_option maxHeartbeats 2000000
namespace Kx
open PySem PySem.Spec L2 DL
/-! ### small functions of the program -/
def dicI (L : DI) : D := .dic ((kvsOf L).map (·.1)) ((kvsOf L).map (·.2))
theorem dicOf_dicI (M : Sto) (L : DI) : dicOf M (dicI L) = some (kvsOf L) := by
  unfold dicOf dicI
  show (if ((kvsOf L).map (·.1)).length = ((kvsOf L).map (·.2)).length then some (((kvsOf L).map (·.1)).zip ((kvsOf L).map (·.2))) else none) = _
  rw [if_pos (by simp), unzip_zip]
theorem rd_dget2I {td ty tx : TED} {δ : Sl} {M : Sto} {L : DI} {x : D} {j : Int} (e : dicOf M x = some (kvsOf L)) (h1 : ∀ k : DKt, k x M → td δ M k) (h2 : ∀ k : DKt, k (.int j) M → ty δ M k) (h3 : ∀ k : DKt, k (.int 0) M → tx δ M k) (k : DKt) (hk : k (.int (getI L j)) M) : dDGet2 td ty tx δ M k := by
  refine h1 _ ⟨by rw [e]; rfl, h2 _ (h3 _ ?_)⟩
  simp only [e]
  show k ((lookD (kvsOf L) (.inl j)).getD (.int 0)) M
  rw [kvs_get]; exact hk
theorem rd_dgetI {td ty : TED} {δ : Sl} {M : Sto} {L : DI} {x : D} {j : Int} (e : dicOf M x = some (kvsOf L)) (h1 : ∀ k : DKt, k x M → td δ M k) (h2 : ∀ k : DKt, k (.int j) M → ty δ M k) (hj : j ∈ L.map (·.1)) (k : DKt) (hk : k (.int (getI L j)) M) : dDGet td ty δ M k := by
  refine h1 _ (h2 _ ?_)
  simp only [e]
  show (match lookD (kvsOf L) (.inl j) with | some d => k d M | none => False)
  rw [kvs_at hj]; exact hk
theorem rd_dputS {td ty tv : TED} {d : EndD} {δ : Sl} {M : Sto} {L : DI} {j v : Int} {a : Addr} (h0 : ∀ k : DKt, k (.int v) (updM M a (.dic (kvsOf L))) → tv δ (updM M a (.dic (kvsOf L))) k) (h1 : ∀ k : DKt, k (.ref a) (updM M a (.dic (kvsOf L))) → td δ (updM M a (.dic (kvsOf L))) k) (h2 : ∀ k : DKt, k (.int j) (updM M a (.dic (kvsOf L))) → ty δ (updM M a (.dic (kvsOf L))) k)
    (hl : L.length < sizeLine) (h : d.nx δ (updM M a (.dic (kvsOf (putI L j v))))) : dDPut td ty tv d δ (updM M a (.dic (kvsOf L))) :=
  rd_dput h0 h1 h2 updM_same hl (by rw [updM_upd]; exact h)
theorem rd_subI {ta tb : TED} {δ : Sl} {M : Sto} (a b : Int) (h1 : ∀ k : DKt, k (.int a) M → ta δ M k) (h2 : ∀ k : DKt, k (.int b) M → tb δ M k) (k : DKt) (hk : k (.int (a - b)) M) : dOp rSub ta tb δ M k := h1 _ (h2 _ hk)
/-- a dict of ints that keeps its keys apart, its values from 1 to p - 1 -/
structure OkL (p : Int) (L : DI) : Prop where
  nd : (L.map (·.1)).Nodup
  v : ∀ q ∈ L, 0 < q.2 ∧ q.2 < p
theorem OkL.get {p : Int} {L : DI} (h : OkL p L) (hp : 0 < p) (r : Int) : 0 ≤ getI L r ∧ getI L r < p := getI_small hp (fun q hq => ⟨by have := (h.v q hq).1; omega, (h.v q hq).2⟩) r
/-! ### sums, moves -/
def addF (p c : Int) (acc : DI) (q : Int × Int) : DI := putI acc q.1 ((getI acc q.1 + c * q.2) % p)
def addL (p : Int) (L1 L2 : DI) (c : Int) : DI := nz (L2.foldl (addF p c) L1)
def movL (L : DI) (d : Int) : DI := L.map fun q => (q.1 + d, q.2)
def spAdded : SpD := fun ds M k _ => ∃ p L1 L2 c, ds = [.int p, dicI L1, dicI L2, .int c] ∧ 0 < p ∧ (L1.map (·.1)).Nodup ∧ (L2.map (·.1)).Nodup ∧ L1.length ≤ 100000 ∧ L2.length ≤ 100000 ∧ (c = 1 ∨ c = -1) ∧ k (dicI (addL p L1 L2 c)) M
def spMoved : SpD := fun ds M k _ => ∃ L d, ds = [dicI L, .int d] ∧ (L.map (·.1)).Nodup ∧ L.length ≤ 100000 ∧ k (dicI (movL L d)) M
theorem putI_new {L : DI} {k v : Int} (h : ¬ k ∈ L.map (·.1)) : putI L k v = L ++ [(k, v)] := by
  unfold putI
  rw [if_neg]
  intro z
  obtain ⟨r, hr, er⟩ := List.any_eq_true.mp z
  exact h (List.mem_map.mpr ⟨r, hr, by simpa using er⟩)
theorem keys_dicI (L : DI) : ((kvsOf L).map (·.1)).map keyOfK = (L.map (·.1)).map D.int := by
  unfold kvsOf; simp only [List.map_map]; rfl
theorem rd_itK {te : TED} {δ : Sl} {M : Sto} {L : DI} (h : ∀ k : DKt, k (dicI L) M → te δ M k) (k : List D → Sto → Prop) (hk : k ((L.map (·.1)).map D.int) M) : dItK te δ M k := h _ (by
  show k (((kvsOf L).map (·.1)).map keyOfK) M
  rw [keys_dicI]; exact hk)
theorem fold_keys {f : DI → Int → DI} {g : DI → Int × Int → DI} {L0 : DI} (h : ∀ acc, ∀ q ∈ L0, f acc q.1 = g acc q) : ∀ (L acc : DI), (∀ q ∈ L, q ∈ L0) → (L.map (·.1)).foldl f acc = L.foldl g acc
  | [], _, _ => rfl
  | q :: L, acc, hs => by
    show (L.map (·.1)).foldl f (f acc q.1) = L.foldl g (g acc q)
    rw [h acc q (hs q List.mem_cons_self)]
    exact fold_keys h L _ fun x hx => hs x (List.mem_cons_of_mem _ hx)
theorem addF_ok {p c : Int} {acc : DI} {q : Int × Int} (h : (acc.map (·.1)).Nodup) : ((addF p c acc q).map (·.1)).Nodup ∧ (addF p c acc q).length ≤ acc.length + 1 := ⟨nodup_put h, len_put _ _ _⟩
theorem addFs_ok {p c : Int} : ∀ (L acc : DI), (acc.map (·.1)).Nodup → ((L.foldl (addF p c) acc).map (·.1)).Nodup ∧ (L.foldl (addF p c) acc).length ≤ acc.length + L.length
  | [], acc, h => ⟨h, by simp⟩
  | q :: L, acc, h => by
    obtain ⟨h1, h2⟩ := addF_ok (p := p) (c := c) (q := q) h
    obtain ⟨h3, h4⟩ := addFs_ok L _ h1
    exact ⟨h3, by simp at h4 ⊢; omega⟩
theorem rd_lockD {te : TED} {δ : Sl} {M : Sto} {L : DI} {k : DKt} (h : ∀ K : DKt, (∀ a, M a = none → K (.ref a) (updM M a (.dic (kvsOf L)))) → te δ M K) (hk : k (dicI L) M) : dLockD te δ M k := by
  refine h _ fun a ha => ?_
  simp only [updM_same]
  rw [updM_del ha]; exact hk
/-- {k: d[k] for k in d if d[k] != 0}, d frozen -/
theorem dc_nz {g : TGD} {tt : TTD} {tk tv : TED} {vs : List Nat} {δ : Sl} {p : Addr} {M : Sto} {k : List (Key × D) → Sto → Prop} {L : DI} (hp : M p = none) (hn : (L.map (·.1)).Nodup) (hl : L.length ≤ 1000000)
    (step : ∀ r ∈ L.map (·.1), ∀ (Mx : Sto), Sub M Mx → ∀ (kx : Option (Key × D) → Sto → Prop), kx (if getI L r = 0 then none else some (.inl r, .int (getI L r))) Mx → elK g tt tk tv vs δ (.int r) Mx kx) (h : k (kvsOf (nz L)) M) :
    dcD g tt tk tv vs δ p ((L.map (·.1)).map D.int) [] M k := by
  refine dc_pure (foNz L) hp _ [] (by rw [sizeLine_eq]; simp; omega) (fun d hd Mx sM kx hx => ?_) ?_ putD_len
  · obtain ⟨r, hr, rfl⟩ := List.mem_map.mp hd
    exact step r hr Mx sM kx hx
  · rw [← keys_dicI, nz_eq hn]
    have e := fold_put (nz L) [] (nodup_nz hn)
    rw [show (kvsOf [] : List (Key × D)) = [] from rfl] at e
    rw [e]; exact h
theorem rd_dictOf {te : TED} {δ : Sl} {M : Sto} {L : DI} {x : D} (e : dicOf M x = some (kvsOf L)) (h : ∀ k : DKt, k x M → te δ M k) (k : DKt) (hk : ∀ a, M a = none → k (.ref a) (updM M a (.dic (kvsOf L)))) : dCB rDictOf (dCons te dNil) δ M k := h _ (by
  show rDictOf [x] M k
  unfold rDictOf
  simp only [e]; exact hk)
theorem rd_seqA {te : TED} {i : Nat} {u : TSD} {d : EndD} {δ : Sl} {M : Sto} {m : MO} (h : ∀ k : DKt, (∀ a, M a = none → k (.ref a) (updM M a m)) → te δ M k) (hn : ∀ a, M a = none → u d (δ.set i (some (.ref a))) (updM M a m)) : dSeq (dSet i te) u d δ M := h _ hn
theorem rd_frz {i : Nat} {tb : TSD} {d : EndD} {δ : Sl} {M : Sto} {L : DI} {a : Addr} (e1 : δ[i]? = some (some (.ref a))) (e2 : M a = some (.dic (kvsOf L))) (h : tb d (δ.set i (some (dicI L))) (delM M a)) : sFrz i tb d δ M := by
  unfold sFrz
  simp only [e1, e2]; exact h
theorem dicOf_ref {M : Sto} {a : Addr} {L : DI} : dicOf (updM M a (.dic (kvsOf L))) (.ref a) = some (kvsOf L) := by
  unfold dicOf; simp only [updM_same]
/-- return {k: d[k] for k in d if d[k] != 0} -/
theorem rd_nzdc {i j : Nat} {vs : List Nat} {δ : Sl} {M : Sto} {L : DI} {k : DKt} (hi : ∀ k : DKt, k (dicI L) M → dVar i δ M k) (h1 : ∀ (Mx : Sto) (r : Int) (k : DKt), k (dicI L) Mx → dVar i ((wipeD δ vs).set j (some (.int r))) Mx k) (h2 : ∀ (Mx : Sto) (r : Int) (k : DKt), k (.int r) Mx → dVar j ((wipeD δ vs).set j (some (.int r))) Mx k)
    (hn : (L.map (·.1)).Nodup) (hl : L.length ≤ 1000000) (hk : k (dicI (nz L)) M) : dLockD (dDc (dItK (dVar i)) (gNm j) (dTst (dOp rNee (dDGet (dVar i) (dVar j)) (dC (.int 0)))) (dVar j) (dDGet (dVar i) (dVar j)) vs) δ M k := by
  refine rd_lockD (L := nz L) (fun K hK => ?_) hk
  refine rd_itK hi _ fun b hb => dc_nz hb hn hl (fun r hr Mx sM kx hx => ?_) ⟨hb, hK b hb⟩
  have get : ∀ k : DKt, k (.int (getI L r)) Mx → dDGet (dVar i) (dVar j) ((wipeD δ vs).set j (some (.int r))) Mx k := fun k hk => rd_dgetI (dicOf_dicI Mx L) (h1 Mx r) (h2 Mx r) hr k hk
  refine elk_if (kk := .inl 0) (z := .non) (!decide (getI L r = 0)) (fun k hk => ?_) (fun hb => ?_) fun hb => ?_
  · exact get _ hk
  · rw [if_neg (by simpa using hb)] at hx
    exact h2 Mx r _ (get _ hx)
  · rw [if_pos (by simpa using hb)] at hx
    exact hx
theorem elk_yes {i : Nat} {tk tv : TED} {vs : List Nat} {δ : Sl} {d : D} {M : Sto} {kx : Option (Key × D) → Sto → Prop} (h : tk ((wipeD δ vs).set i (some d)) M fun y M4 => tv ((wipeD δ vs).set i (some d)) M4 fun z M5 => match keyD y with | some kk => kx (some (kk, z)) M5 | none => False) : elK (gNm i) dYes tk tv vs δ d M kx := h
theorem mov_keys (L : DI) (d : Int) : (movL L d).map (·.1) = (L.map (·.1)).map (· + d) := by unfold movL; simp [List.map_map, Function.comp_def]
theorem mov_nodup {L : DI} {d : Int} (h : (L.map (·.1)).Nodup) : ((movL L d).map (·.1)).Nodup := by
  rw [mov_keys]
  exact List.Pairwise.map _ (fun a b hab => by intro z; exact hab (by omega)) h
section
variable {P : Program} {w : World} {K : PySem.W.Frag} {mg : Str → Option Value} {base : Heap} {W : Wd}
theorem ok_lamps_added (Df : DefAt K mg "lamps_added" s_lamps_added ["p", "one", "other", "number"]) (g : Gb K mg) (hW : W.K = K) : CalD P w K mg base W 1 "lamps_added" ["p", "one", "other", "number"] spAdded :=
  okC Df sc_lamps_added (fun ds M k e ⟨_, _, _, _, h, _⟩ => by rw [h]; rfl) fun f cdv A outer s H E F0 ds M kk e hr ⟨p, L1, L2, c, hd, hp, n1, n2, l1, l2, hc, hk⟩ => by
    subst hd
    refine ⟨_, (psd_cons (psd_set 4 sc_lamps_added.nd (pd_callTy cd_dict rfl g.dict_ PyProof.Rows.Boot.«dict» (pda_cons (pd_var 1) pda_nil))) (psd_cons (psd_for PassesOwn.never rfl (pid_keys (pd_var 2)) (pgd_name 5 sc_lamps_added.nd) (psd_one (psd_dput (hu1 hr) (pd_var 4) (pd_var 5) (pd_op od_mod (pd_op od_add (pd_dget2 (hu1 hr) (pd_var 4) (pd_var 5) pd_int) (pd_op od_mul (pd_var 3) (pd_dget (hu1 hr) (pd_var 2) (pd_var 5)))) (pd_var 0))))) (psd_one (psd_frz 4 (psd_ret (pd_lockD (pd_dc (own := [("room", 5)]) rfl sc_lamps_added.nd (pid_keys (pd_var 4)) (blkOk_by (by first | kernel_rfl | rfl)) (sim_name (i := 5) (by decide)) (fun _ _ _ _ _ => pg_name (i := 5) sc_lamps_added.nd rfl (by first | exact Or.inl rfl | exact Or.inr rfl)) (fun _ _ _ _ _ => ptsd_one (ptd_cmp (od_ne hr.units0) (pd_dget (hu1 hr) (pd_var 4) (pd_var 5)) pd_int (nomark _))) (fun _ _ _ _ _ => (pd_var 5)) (fun _ _ _ _ _ => (pd_dget (hu1 hr) (pd_var 4) (pd_var 5)))))))))), ?_⟩
    refine rd_seqA (m := .dic (kvsOf L1)) (fun k hk => rd_dictOf (dicOf_dicI M L1) (fun k hk => hk) k hk) fun a ha => ?_
    refine rd_for (ds := (L2.map (·.1)).map D.int) (M1 := updM M a (.dic (kvsOf L1))) (fun r δ M' => ∃ (rs acc : DI) (y : Option D), r = (rs.map (·.1)).map D.int ∧ (∀ q ∈ rs, q ∈ L2) ∧ δ = [some (.int p), some (dicI L1), some (dicI L2), some (.int c), some (.ref a), y] ∧ M' = updM M a (.dic (kvsOf acc)) ∧
      rs.foldl (addF p c) acc = L2.foldl (addF p c) L1 ∧ (acc.map (·.1)).Nodup ∧ acc.length + rs.length ≤ 200000) (fun k hk => rd_itK (fun k hk => hk) k hk) ⟨L2, L1, none, rfl, fun _ h => h, rfl, rfl, rfl, n1, by omega⟩ ?_ ?_
    · rintro x r δ M' K' ⟨rs, acc, y, hr1, hs, rfl, rfl, hf, hn, hln⟩ hK
      cases rs with
      | nil => cases hr1
      | cons q rs =>
        obtain ⟨rfl, rfl⟩ := List.cons.inj hr1
        have hq : q ∈ L2 := hs q List.mem_cons_self
        have gq : getI L2 q.1 = q.2 := getI_mem n2 hq
        obtain ⟨hn2, hl2⟩ := addF_ok (p := p) (c := c) (q := q) hn
        simp only [List.length_cons] at hln
        refine rd_dputS (L := acc) (j := q.1) (v := (getI acc q.1 + c * q.2) % p) (fun k hk => ?_) (fun k hk => hk) (fun k hk => hk) (by rw [sizeLine_eq]; omega) ?_
        · refine rd_modI _ p (fun k hk => rd_addI _ _ (fun k hk => rd_dget2I (j := q.1) dicOf_ref (fun k hk => hk) (fun k hk => hk) (fun k hk => hk) k hk) (fun k hk => rd_mulI c q.2 (fun k hk => hk) (fun k hk => rd_dgetI (j := q.1) (dicOf_dicI _ L2) (fun k hk => hk) (fun k hk => hk) (List.mem_map.mpr ⟨q, hq, rfl⟩) k (by rw [gq]; exact hk)) (.inl (.inl ⟨by omega, by omega⟩)) k hk) k hk) (fun k hk => hk) hp _ hk
        · exact hK _ _ ⟨rs, addF p c acc q, some (.int q.1), rfl, fun z hz => hs z (List.mem_cons_of_mem _ hz), rfl, rfl, hf, hn2, by omega⟩
    · rintro δ M' ⟨rs, acc, y, hr1, hs, rfl, rfl, hf, hn, hln⟩
      cases rs with
      | cons _ _ => cases hr1
      | nil =>
        have hf : acc = L2.foldl (addF p c) L1 := hf
        refine rd_frz rfl updM_same (rd_ret (rd_nzdc (L := acc) (fun k hk => hk) (fun _ _ k hk => hk) (fun _ _ k hk => hk) hn (by simp at hln; omega) ?_))
        rw [updM_del ha, hf]
        exact hk
theorem ok_lamps_moved (Df : DefAt K mg "lamps_moved" s_lamps_moved ["lamps", "by"]) (g : Gb K mg) (hW : W.K = K) : CalD P w K mg base W 1 "lamps_moved" ["lamps", "by"] spMoved :=
  okC Df sc_lamps_moved (fun ds M k e ⟨_, _, h, _⟩ => by rw [h]; rfl) fun f cdv A outer s H E F0 ds M kk e hr ⟨L, d, hd, n1, l1, hk⟩ => by
    subst hd
    refine ⟨_, (psd_one (psd_ret (pd_lockD (pd_dc (own := [("room", 2)]) rfl sc_lamps_moved.nd (pid_keys (pd_var 0)) (blkOk_by (by first | kernel_rfl | rfl)) (sim_name (i := 2) (by decide)) (fun _ _ _ _ _ => pg_name (i := 2) sc_lamps_moved.nd rfl (by first | exact Or.inl rfl | exact Or.inr rfl)) (fun _ _ _ _ _ => ptsd_nil) (fun _ _ _ _ _ => (pd_op od_add (pd_var 2) (pd_var 1))) (fun _ _ _ _ _ => (pd_dget (hu1 hr) (pd_var 0) (pd_var 2))))))), ?_⟩
    refine rd_ret (rd_lockD (L := movL L d) (fun K hK => ?_) hk)
    refine rd_itK (fun k hk => hk) _ fun b hb => dc_pure (fun x => match x with | .int r => some (.inl (r + d), .int (getI L r)) | _ => none) hb _ [] (by rw [sizeLine_eq]; simp; omega) (fun x hx Mx sM kx hkx => ?_) ?_ putD_len
    · obtain ⟨r, hr, rfl⟩ := List.mem_map.mp hx
      refine elk_yes (rd_addI r d (fun k hk => hk) (fun k hk => hk) _ ?_)
      exact rd_dgetI (j := r) (dicOf_dicI Mx L) (fun k hk => hk) (fun k hk => hk) hr _ hkx
    · have e1 : ((L.map (·.1)).map D.int).filterMap (fun x => match x with | .int r => some (Sum.inl (r + d), D.int (getI L r)) | _ => none) = kvsOf (movL L d) := by
        have gen : ∀ R : DI, (∀ q ∈ R, q ∈ L) → ((R.map (·.1)).map D.int).filterMap (fun x => match x with | .int r => some ((Sum.inl (r + d), D.int (getI L r)) : Key × D) | _ => none) = kvsOf (movL R d) := by
          intro R
          induction R with
          | nil => intro _; rfl
          | cons q R ih =>
            intro h
            have gq := getI_mem n1 (h q List.mem_cons_self)
            have ih := ih fun x hx => h x (List.mem_cons_of_mem _ hx)
            show (some (Sum.inl (q.1 + d), D.int (getI L q.1))).toList ++ _ = _
            rw [gq, ih]; rfl
        exact gen L fun _ h => h
      rw [e1]
      have e := fold_put (movL L d) [] (mov_nodup n1)
      rw [show (kvsOf [] : List (Key × D)) = [] from rfl] at e
      rw [e]
      exact ⟨hb, hK b hb⟩
end
end Kx
set_option maxHeartbeats 2000000
namespace Kx
open PySem PySem.Spec L2 DL
/-! ### lists by place -/
theorem ixN_nat {n : Nat} {j : Int} (h0 : 0 ≤ j) (h1 : j < n) : ixN n j = some j.toNat := by
  unfold ixN; simp [h0, h1]
theorem rd_lput {te td ty : TED} {d : EndD} {δ : Sl} {M : Sto} {a : Addr} {xs : List Int} {j v : Int} (h0 : ∀ k : DKt, k (.int v) (updM M a (.lst (xs.map D.int))) → te δ (updM M a (.lst (xs.map D.int))) k) (h1 : ∀ k : DKt, k (.ref a) (updM M a (.lst (xs.map D.int))) → td δ (updM M a (.lst (xs.map D.int))) k) (h2 : ∀ k : DKt, k (.int j) (updM M a (.lst (xs.map D.int))) → ty δ (updM M a (.lst (xs.map D.int))) k)
    (j0 : 0 ≤ j) (j1 : j < xs.length) (h : d.nx δ (updM M a (.lst ((xs.set j.toNat v).map D.int)))) : dAsg te (gIx td ty) d δ (updM M a (.lst (xs.map D.int))) := by
  refine h0 _ (h1 _ (h2 _ ?_))
  have e : ixN (xs.map D.int).length j = some j.toNat := ixN_nat j0 (by simpa using j1)
  simp only [updM_same, e]
  rw [updM_upd, ← List.map_set]
  exact h
theorem rd_ixI {ta tb : TED} {δ : Sl} {M : Sto} {x : D} {xs : List Int} {j : Int} (e : seqOf M x = some (xs.map D.int)) (h1 : ∀ k : DKt, k x M → ta δ M k) (h2 : ∀ k : DKt, k (.int j) M → tb δ M k) (j0 : 0 ≤ j) (j1 : j < xs.length) (k : DKt) (hk : k (.int (xs.getD j.toNat 0)) M) : dOp DL.rIx ta tb δ M k := by
  refine h1 _ (h2 _ ?_)
  show (match seqOf M x with | some ds => (match atI ds j with | some d => k d M | none => False) | none => False)
  simp only [e]
  have h3 : j.toNat < xs.length := by omega
  have e2 : atI (xs.map D.int) j = some (.int (xs.getD j.toNat 0)) := by
    unfold atI
    rw [ixN_nat j0 (by simpa using j1)]
    simp [List.getD, h3]
  simp only [e2]; exact hk
theorem rep_ints (n : Nat) (v : Int) : (List.replicate n [D.int v]).flatten = (List.replicate n v).map D.int := by
  rw [List.map_replicate]
  induction n with
  | zero => rfl
  | succ m ih => rw [List.replicate_succ, List.replicate_succ, List.flatten_cons, ih]; rfl
theorem rd_forget {i : Nat} {te : TED} {δ : Sl} {M : Sto} {x : D} {a : Addr} {m : MO} {k : DKt} (e : δ[i]? = some (some (.ref a))) (h : ∀ k : DKt, k x M → te δ M k) (hM : M a = some m) (hm : m.loose = true) (hk : k x (delM M a)) : dForget i te δ M k := by
  unfold dForget
  simp only [e]
  refine h _ ?_
  simp only [hM]
  exact ⟨hm, hk⟩
/-! ### folds -/
def foldF (p size : Int) (acc : List Int) (q : Int × Int) : List Int := acc.set (q.1 % size).toNat ((acc.getD (q.1 % size).toNat 0 + q.2) % p)
def foldV (p size : Int) (L : DI) : List Int := L.foldl (foldF p size) (List.replicate size.toNat 0)
def spFold : SpD := fun ds M k _ => ∃ p size L, ds = [.int p, .int size, dicI L] ∧ 0 < p ∧ 1 ≤ size ∧ size ≤ 1000 ∧ (L.map (·.1)).Nodup ∧ k (.tup ((foldV p size L).map D.int)) M
def turnL (p s : Int) : List Int := if 2 * s ≤ p then List.replicate s.toNat 2 else List.replicate (p - s).toNat (-2)
def spTurn : SpD := fun ds M k _ => ∃ p s : Int, ds = [.int p, .int s] ∧ 0 < p ∧ p ≤ 1000 ∧ 0 ≤ s ∧ s < p ∧ ∀ a, M a = none → k (.ref a) (updM M a (.lst ((turnL p s).map D.int)))
/-! ### the best way -/
def loL (L : DI) : Int := (L.map (·.1)).foldl min 0
def hiL (L : DI) : Int := (L.map (·.1)).foldl max 0
theorem lo_le : ∀ (l : List Int) (x : Int), l.foldl min x ≤ x ∧ (∀ y ∈ l, l.foldl min x ≤ y) ∧ (l.foldl min x = x ∨ l.foldl min x ∈ l)
  | [], x => ⟨by simp, by simp, .inl rfl⟩
  | a :: l, x => by
    obtain ⟨h1, h2, h3⟩ := lo_le l (min x a)
    refine ⟨by show l.foldl min (min x a) ≤ x; omega, fun y hy => ?_, ?_⟩
    · show l.foldl min (min x a) ≤ y
      rcases List.mem_cons.mp hy with e | e
      · subst e; omega
      · exact h2 y e
    · show l.foldl min (min x a) = x ∨ l.foldl min (min x a) ∈ a :: l
      rcases h3 with h | h
      · rw [h]
        by_cases hx : x ≤ a
        · exact .inl (by omega)
        · exact .inr (by rw [show min x a = a by omega]; exact List.mem_cons_self)
      · exact .inr (List.mem_cons_of_mem _ h)
theorem hi_ge : ∀ (l : List Int) (x : Int), x ≤ l.foldl max x ∧ (∀ y ∈ l, y ≤ l.foldl max x) ∧ (l.foldl max x = x ∨ l.foldl max x ∈ l)
  | [], x => ⟨by simp, by simp, .inl rfl⟩
  | a :: l, x => by
    obtain ⟨h1, h2, h3⟩ := hi_ge l (max x a)
    refine ⟨by show x ≤ l.foldl max (max x a); omega, fun y hy => ?_, ?_⟩
    · show y ≤ l.foldl max (max x a)
      rcases List.mem_cons.mp hy with e | e
      · subst e; omega
      · exact h2 y e
    · show l.foldl max (max x a) = x ∨ l.foldl max (max x a) ∈ a :: l
      rcases h3 with h | h
      · rw [h]
        by_cases hx : a ≤ x
        · exact .inl (by omega)
        · exact .inr (by rw [show max x a = a by omega]; exact List.mem_cons_self)
      · exact .inr (List.mem_cons_of_mem _ h)
theorem lo_is {L : DI} {m : Int} (h1 : m ∈ 0 :: L.map (·.1)) (h2 : ∀ y, y ∈ 0 :: L.map (·.1) → m ≤ y) : m = loL L := by
  obtain ⟨a1, a2, a3⟩ := lo_le (L.map (·.1)) 0
  have b1 : m ≤ loL L := by
    rcases a3 with h | h
    · have := h2 0 List.mem_cons_self
      unfold loL; omega
    · exact h2 _ (List.mem_cons_of_mem _ h)
  have b2 : loL L ≤ m := by
    rcases List.mem_cons.mp h1 with h | h
    · rw [h]; exact a1
    · exact a2 m h
  omega
theorem hi_is {L : DI} {m : Int} (h1 : m ∈ 0 :: L.map (·.1)) (h2 : ∀ y, y ∈ 0 :: L.map (·.1) → y ≤ m) : m = hiL L := by
  obtain ⟨a1, a2, a3⟩ := hi_ge (L.map (·.1)) 0
  have b1 : hiL L ≤ m := by
    rcases a3 with h | h
    · have := h2 0 List.mem_cons_self
      unfold hiL; omega
    · exact h2 _ (List.mem_cons_of_mem _ h)
  have b2 : m ≤ hiL L := by
    rcases List.mem_cons.mp h1 with h | h
    · rw [h]; exact a1
    · exact a2 m h
  omega
def bestW (e : Int) (L : DI) : Int × Int × Int :=
  let first := loL L; let last := hiL L; let least := min first e; let greatest := max last e
  let down := 0 - first + (greatest - first) + (greatest - e); let up := last + (last - least) + (e - least)
  if down ≤ up then (down, first, greatest) else (up, last, least)
def spBest : SpD := fun ds M k _ => ∃ e L, ds = [.int e, dicI L] ∧ L.length ≤ 100000 ∧ k (.tup [.int (bestW e L).1, .tup [.int (bestW e L).2.1, .int (bestW e L).2.2]]) M
theorem rd_listD {te : TED} {δ : Sl} {M : Sto} {L : DI} {x : D} (e : dicOf M x = some (kvsOf L)) (h : ∀ k : DKt, k x M → te δ M k) (k : DKt) (hk : k (.lst ((L.map (·.1)).map D.int)) M) : dCB rListD0 (dCons te dNil) δ M k := h _ (by
  show rListD0 [x] M k
  unfold rListD0
  simp only [e]
  have e2 : (kvsOf L).map (fun kv => keyOfK kv.1) = (L.map (·.1)).map D.int := by rw [← keys_dicI]; simp
  rw [e2]; exact hk)
theorem rd_minL {te : TED} {δ : Sl} {M : Sto} {xs : List Int} (k : DKt) (h : ∀ k : DKt, k (.lst (xs.map D.int)) M → te δ M k) (h0 : 0 < xs.length) (hk : ∀ m, m ∈ xs → (∀ y, y ∈ xs → m ≤ y) → k (.int m) M) : dCB rMinD (dCons te dNil) δ M k := h _ (by
  show (match lstOf M (.lst (xs.map D.int)) with | some xs => (match intsOf xs with | some bs => 0 < bs.length ∧ ∀ m, m ∈ bs → (∀ y, y ∈ bs → m ≤ y) → k (.int m) M | none => False) | none => False)
  show (match intsOf (xs.map D.int) with | some bs => 0 < bs.length ∧ ∀ m, m ∈ bs → (∀ y, y ∈ bs → m ≤ y) → k (.int m) M | none => False)
  rw [intsOf_ints]; exact ⟨h0, hk⟩)
theorem rd_maxL {te : TED} {δ : Sl} {M : Sto} {xs : List Int} (k : DKt) (h : ∀ k : DKt, k (.lst (xs.map D.int)) M → te δ M k) (h0 : 0 < xs.length) (hk : ∀ m, m ∈ xs → (∀ y, y ∈ xs → y ≤ m) → k (.int m) M) : dCB rMaxD (dCons te dNil) δ M k := h _ (by
  show (match intsOf (xs.map D.int) with | some bs => 0 < bs.length ∧ ∀ m, m ∈ bs → (∀ y, y ∈ bs → y ≤ m) → k (.int m) M | none => False)
  rw [intsOf_ints]; exact ⟨h0, hk⟩)
theorem rd_min2 {ta tb : TED} {δ : Sl} {M : Sto} (a b : Int) (h1 : ∀ k : DKt, k (.int a) M → ta δ M k) (h2 : ∀ k : DKt, k (.int b) M → tb δ M k) (k : DKt) (hk : k (.int (min a b)) M) : dCB rMinD (dCons ta (dCons tb dNil)) δ M k := h1 _ (h2 _ (by
  show k (.int (if b < a then b else a)) M
  have e : (if b < a then b else a) = min a b := by split <;> omega
  rw [e]; exact hk))
theorem rd_max2 {ta tb : TED} {δ : Sl} {M : Sto} (a b : Int) (h1 : ∀ k : DKt, k (.int a) M → ta δ M k) (h2 : ∀ k : DKt, k (.int b) M → tb δ M k) (k : DKt) (hk : k (.int (max a b)) M) : dCB rMaxD (dCons ta (dCons tb dNil)) δ M k := h1 _ (h2 _ (by
  show k (.int (if b > a then b else a)) M
  have e : (if b > a then b else a) = max a b := by split <;> omega
  rw [e]; exact hk))
theorem rd_par {ta tb : TED} {i j : Nat} {u : TSD} {d : EndD} {δ : Sl} {M : Sto} {x y : D} (h1 : ∀ k : DKt, k x M → ta δ M k) (h2 : ∀ k : DKt, k y M → tb δ M k) (hn : u d ((δ.set i (some x)).set j (some y)) M) : dSeq (dPar i j (dCons ta (dCons tb dNil))) u d δ M := h1 _ (h2 _ hn)
theorem rd_addL {ta tb : TED} {δ : Sl} {M : Sto} (xs ys : List D) (h1 : ∀ k : DKt, k (.lst xs) M → ta δ M k) (h2 : ∀ k : DKt, k (.lst ys) M → tb δ M k) (hl : xs.length + ys.length ≤ sizeLine) (k : DKt) (hk : k (.lst (xs ++ ys)) M) : dOp DL.rAdd ta tb δ M k := h1 _ (h2 _ ⟨hl, hk⟩)
section
variable {P : Program} {w : World} {K : PySem.W.Frag} {mg : Str → Option Value} {base : Heap} {W : Wd}
theorem fold_len (p size : Int) : ∀ (L : DI) (acc : List Int), (L.foldl (foldF p size) acc).length = acc.length
  | [], _ => rfl
  | q :: L, acc => by rw [List.foldl_cons, fold_len p size L]; unfold foldF; simp
theorem ok_fold_of (Df : DefAt K mg "fold_of" s_fold_of ["p", "size", "lamps"]) (g : Gb K mg) (hW : W.K = K) : CalD P w K mg base W 1 "fold_of" ["p", "size", "lamps"] spFold :=
  okC Df sc_fold_of (fun ds M k e ⟨_, _, _, h, _⟩ => by rw [h]; rfl) fun f cdv A outer s H E F0 ds M kk e hr ⟨p, size, L, hd, hp, s1, s2, hn, hk⟩ => by
    subst hd
    refine ⟨_, (psd_cons (psd_set 3 sc_fold_of.nd (pd_op od_mulM (pd_lst (pda_cons pd_int pda_nil)) (pd_var 1))) (psd_cons (psd_for PassesOwn.never rfl (pid_keys (pd_var 2)) (pgd_name 4 sc_fold_of.nd) (psd_one (psd_asg (pd_op od_mod (pd_op od_add (pd_ix (pd_var 3) (pd_op od_mod (pd_var 4) (pd_var 1))) (pd_dget (hu1 hr) (pd_var 2) (pd_var 4))) (pd_var 0)) (pgd_ix (pd_var 3) (pd_op od_mod (pd_var 4) (pd_var 1)))))) (psd_one (psd_ret (pd_forget 3 (pd_callTy cd_tuple rfl g.tuple_ PyProof.Rows.Boot.«tuple» (pda_cons (pd_var 3) pda_nil))))))), ?_⟩
    refine ⟨by rw [sizeLine_eq]; simp, by omega, by omega, by rw [sizeLine_eq]; simp; omega, fun a ha => ?_⟩
    rw [rep_ints]
    dsimp only
    refine rd_for (ds := (L.map (·.1)).map D.int) (M1 := updM M a (.lst ((List.replicate size.toNat 0).map D.int))) (fun r δ M' => ∃ (rs : DI) (acc : List Int) (y : Option D), r = (rs.map (·.1)).map D.int ∧ (∀ q ∈ rs, q ∈ L) ∧ δ = [some (.int p), some (.int size), some (dicI L), some (.ref a), y] ∧ M' = updM M a (.lst (acc.map D.int)) ∧
      rs.foldl (foldF p size) acc = foldV p size L ∧ acc.length = size.toNat) (fun k hk => rd_itK (fun k hk => hk) k hk) ⟨L, _, none, rfl, fun _ h => h, rfl, rfl, rfl, by simp⟩ ?_ ?_
    · rintro x r δ M' K' ⟨rs, acc, y, hr1, hs, rfl, rfl, hf, hl⟩ hK
      cases rs with
      | nil => cases hr1
      | cons q rs =>
        obtain ⟨rfl, rfl⟩ := List.cons.inj hr1
        have hq : q ∈ L := hs q List.mem_cons_self
        have gq : getI L q.1 = q.2 := getI_mem hn hq
        have m0 : 0 ≤ q.1 % size := Int.emod_nonneg _ (by omega)
        have m1 : q.1 % size < size := Int.emod_lt_of_pos _ (by omega)
        have sq : seqOf (updM M a (.lst (acc.map D.int))) (.ref a) = some (acc.map D.int) := by unfold seqOf; simp only [updM_same]
        refine rd_lput (xs := acc) (j := q.1 % size) (v := (acc.getD (q.1 % size).toNat 0 + q.2) % p) (fun k hk => ?_) (fun k hk => hk) (fun k hk => rd_modI q.1 size (fun k hk => hk) (fun k hk => hk) (by omega) k hk) m0 (by omega) ?_
        · exact rd_modI _ p (fun k hk => rd_addI _ _ (fun k hk => rd_ixI (xs := acc) (j := q.1 % size) sq (fun k hk => hk) (fun k hk => rd_modI q.1 size (fun k hk => hk) (fun k hk => hk) (by omega) k hk) m0 (by omega) k hk) (fun k hk => rd_dgetI (j := q.1) (dicOf_dicI _ L) (fun k hk => hk) (fun k hk => hk) (List.mem_map.mpr ⟨q, hq, rfl⟩) k (by rw [gq]; exact hk)) k hk) (fun k hk => hk) hp _ hk
        · exact hK _ _ ⟨rs, foldF p size acc q, some (.int q.1), rfl, fun z hz => hs z (List.mem_cons_of_mem _ hz), rfl, rfl, hf, by unfold foldF; simpa using hl⟩
    · rintro δ M' ⟨rs, acc, y, hr1, hs, rfl, rfl, hf, hl⟩
      cases rs with
      | cons _ _ => cases hr1
      | nil =>
        have hf : acc = foldV p size L := hf
        have sq : seqOf (updM M a (.lst (acc.map D.int))) (.ref a) = some (acc.map D.int) := by unfold seqOf; simp only [updM_same]
        refine rd_ret (rd_forget (x := .tup (acc.map D.int)) rfl (fun k hk => rd_cb1 k (fun k hk => hk) ?_) updM_same rfl ?_)
        · show (match seqOf _ (.ref a) with | some xs => k (.tup xs) _ | none => False)
          simp only [sq]; exact hk
        · rw [updM_del ha, hf]; exact hk
theorem ok_turning_letters (Df : DefAt K mg "turning_letters" s_turning_letters ["p", "standing"]) (g : Gb K mg) (hW : W.K = K) : CalD P w K mg base W 1 "turning_letters" ["p", "standing"] spTurn :=
  okC Df sc_turning_letters (fun ds M k e ⟨_, _, h, _⟩ => by rw [h]; rfl) fun f cdv A outer s H E F0 ds M kk e hr ⟨p, st, hd, p0, p1, s0, s1, hk⟩ => by
    subst hd
    refine ⟨_, (psd_one (psd_ret (pd_ifExp (ptd_cmp od_le (pd_op od_mul pd_int (pd_var 1)) (pd_var 0) (nomark _)) (pd_op od_mulM (pd_lst (pda_cons pd_int pda_nil)) (pd_var 1)) (pd_op od_mulM (pd_lst (pda_cons (pd_un ud_neg pd_int) pda_nil)) (pd_op od_sub (pd_var 0) (pd_var 1)))))), ?_⟩
    refine rd_ret (rd_ifE (decide (2 * st ≤ p)) (fun k hk => ?_) (fun hb => ?_) fun hb => ?_)
    · exact rd_op (x := .int (2 * st)) (y := .int p) _ (fun k hk => rd_mulI 2 st (fun k hk => hk) (fun k hk => hk) (mulW (by decide) (by decide)) k hk) (fun k hk => hk) hk
    · have e : turnL p st = List.replicate st.toNat 2 := if_pos (by simpa using hb)
      refine ⟨by rw [sizeLine_eq]; simp, by omega, by omega, by rw [sizeLine_eq]; simp; omega, fun a ha => ?_⟩
      rw [rep_ints, ← e]; exact hk a ha
    · have e : turnL p st = List.replicate (p - st).toNat (-2) := if_neg (by simpa using hb)
      refine ⟨by rw [sizeLine_eq]; simp, by omega, by omega, by rw [sizeLine_eq]; simp; omega, fun a ha => ?_⟩
      show kk _ (updM M a (.lst (List.replicate (p - st).toNat [D.int (-2)]).flatten))
      rw [rep_ints, ← e]; exact hk a ha
theorem ok_best_way (Df : DefAt K mg "best_way" s_best_way ["end", "lamps"]) (g : Gb K mg) (hW : W.K = K) : CalD P w K mg base W 1 "best_way" ["end", "lamps"] spBest :=
  okC Df sc_best_way (fun ds M k e ⟨_, _, h, _⟩ => by rw [h]; rfl) fun f cdv A outer s H E F0 ds M kk e hr ⟨e0, L, hd, hl, hk⟩ => by
    subst hd
    refine ⟨_, (psd_cons (psd_par 4 5 rfl sc_best_way.nd (pda_cons (pd_callB (cd_min rfl) rfl g.min_ PyProof.Rows.Boot.«min» (pda_cons (pd_op od_add (pd_lst (pda_cons pd_int pda_nil)) (pd_callTy (cd_listD rfl) rfl g.list_ PyProof.Rows.Boot.«list» (pda_cons (pd_var 1) pda_nil))) pda_nil)) (pda_cons (pd_callB (cd_max rfl) rfl g.max_ PyProof.Rows.Boot.«max» (pda_cons (pd_op od_add (pd_lst (pda_cons pd_int pda_nil)) (pd_callTy (cd_listD rfl) rfl g.list_ PyProof.Rows.Boot.«list» (pda_cons (pd_var 1) pda_nil))) pda_nil)) pda_nil))) (psd_cons (psd_par 6 7 rfl sc_best_way.nd (pda_cons (pd_callB (cd_min rfl) rfl g.min_ PyProof.Rows.Boot.«min» (pda_cons (pd_var 4) (pda_cons (pd_var 0) pda_nil))) (pda_cons (pd_callB (cd_max rfl) rfl g.max_ PyProof.Rows.Boot.«max» (pda_cons (pd_var 5) (pda_cons (pd_var 0) pda_nil))) pda_nil))) (psd_cons (psd_set 2 sc_best_way.nd (pd_op od_add (pd_op od_add (pd_op od_sub pd_int (pd_var 4)) (pd_op od_sub (pd_var 7) (pd_var 4))) (pd_op od_sub (pd_var 7) (pd_var 0)))) (psd_cons (psd_set 3 sc_best_way.nd (pd_op od_add (pd_op od_add (pd_var 5) (pd_op od_sub (pd_var 5) (pd_var 6))) (pd_op od_sub (pd_var 0) (pd_var 6)))) (psd_cons (psd_if (ptd_cmp od_le (pd_var 2) (pd_var 3) (nomark _)) (psd_one (psd_ret (pd_tup (pda_cons (pd_var 2) (pda_cons (pd_tup (pda_cons (pd_var 4) (pda_cons (pd_var 7) pda_nil))) pda_nil))))) psd_nil) (psd_one (psd_ret (pd_tup (pda_cons (pd_var 3) (pda_cons (pd_tup (pda_cons (pd_var 5) (pda_cons (pd_var 6) pda_nil))) pda_nil)))))))))), ?_⟩
    have zl : ∀ k : DKt, k (.lst ((0 :: L.map (·.1)).map D.int)) M → dOp DL.rAdd (dLst (dCons (dC (.int 0)) dNil)) (dCB rListD0 (dCons (dVar 1) dNil)) (startD ["end", "lamps", "down_first", "up_first", "first", "last", "least", "greatest"] [.int e0, dicI L]) M k := fun k hk =>
      rd_addL [.int 0] _ (fun k hk => ⟨by rw [sizeLine_eq]; simp, hk⟩) (fun k hk => rd_listD (dicOf_dicI M L) (fun k hk => hk) k hk) (by rw [sizeLine_eq]; simp; omega) k hk
    refine rd_par (x := .int (loL L)) (y := .int (hiL L)) (fun k hk => rd_minL k zl (by simp) fun m h1 h2 => by rw [lo_is h1 h2]; exact hk) (fun k hk => rd_maxL k zl (by simp) fun m h1 h2 => by rw [hi_is h1 h2]; exact hk) ?_
    refine rd_par (x := .int (min (loL L) e0)) (y := .int (max (hiL L) e0)) (fun k hk => rd_min2 _ _ (fun k hk => hk) (fun k hk => hk) k hk) (fun k hk => rd_max2 _ _ (fun k hk => hk) (fun k hk => hk) k hk) ?_
    refine rd_seqx (x := .int (0 - loL L + (max (hiL L) e0 - loL L) + (max (hiL L) e0 - e0))) (fun k hk => hk) ?_
    refine rd_seqx (x := .int (hiL L + (hiL L - min (loL L) e0) + (e0 - min (loL L) e0))) (fun k hk => hk) ?_
    refine rd_cut (decide (0 - loL L + (max (hiL L) e0 - loL L) + (max (hiL L) e0 - e0) ≤ hiL L + (hiL L - min (loL L) e0) + (e0 - min (loL L) e0))) (fun k hk => hk) (fun hb => ?_) fun hb => ?_
    · have e : bestW e0 L = (0 - loL L + (max (hiL L) e0 - loL L) + (max (hiL L) e0 - e0), loL L, max (hiL L) e0) := if_pos (by simpa using hb)
      rw [e] at hk
      exact ⟨by rw [sizeLine_eq]; simp, by rw [sizeLine_eq]; simp, hk⟩
    · have e : bestW e0 L = (hiL L + (hiL L - min (loL L) e0) + (e0 - min (loL L) e0), hiL L, min (loL L) e0) := if_neg (by simpa using hb)
      rw [e] at hk
      exact ⟨by rw [sizeLine_eq]; simp, by rw [sizeLine_eq]; simp, hk⟩
end
end Kx
set_option maxHeartbeats 2000000
namespace Kx
open PySem PySem.Spec L2 DL
/-! ### lamps over, divided -/
def loK : DI → Int
  | [] => 0
  | q :: r => (r.map (·.1)).foldl min q.1
def hiK : DI → Int
  | [] => 0
  | q :: r => (r.map (·.1)).foldl max q.1
theorem loK_is {L : DI} {m : Int} (h0 : L ≠ []) (h1 : m ∈ L.map (·.1)) (h2 : ∀ y, y ∈ L.map (·.1) → m ≤ y) : m = loK L := by
  cases L with
  | nil => exact absurd rfl h0
  | cons q r =>
    obtain ⟨a1, a2, a3⟩ := lo_le (r.map (·.1)) q.1
    have b1 : m ≤ loK (q :: r) := by
      show m ≤ (r.map (·.1)).foldl min q.1
      rcases a3 with h | h
      · rw [h]; exact h2 _ (by simp)
      · exact h2 _ (List.mem_cons_of_mem _ h)
    have b2 : loK (q :: r) ≤ m := by
      show (r.map (·.1)).foldl min q.1 ≤ m
      rcases List.mem_cons.mp h1 with h | h
      · rw [h]; exact a1
      · exact a2 m h
    omega
theorem hiK_is {L : DI} {m : Int} (h0 : L ≠ []) (h1 : m ∈ L.map (·.1)) (h2 : ∀ y, y ∈ L.map (·.1) → y ≤ m) : m = hiK L := by
  cases L with
  | nil => exact absurd rfl h0
  | cons q r =>
    obtain ⟨a1, a2, a3⟩ := hi_ge (r.map (·.1)) q.1
    have b1 : hiK (q :: r) ≤ m := by
      show (r.map (·.1)).foldl max q.1 ≤ m
      rcases a3 with h | h
      · rw [h]; exact h2 _ (by simp)
      · exact h2 _ (List.mem_cons_of_mem _ h)
    have b2 : m ≤ hiK (q :: r) := by
      show m ≤ (r.map (·.1)).foldl max q.1
      rcases List.mem_cons.mp h1 with h | h
      · rw [h]; exact a1
      · exact a2 m h
    omega
theorem loK_le {L : DI} : ∀ q ∈ L, loK L ≤ q.1 := by
  cases L with
  | nil => simp
  | cons q r =>
    obtain ⟨a1, a2, a3⟩ := lo_le (r.map (·.1)) q.1
    intro x hx
    unfold loK
    rcases List.mem_cons.mp hx with h | h
    · rw [h]; exact a1
    · exact a2 _ (List.mem_map.mpr ⟨x, h, rfl⟩)
theorem hiK_ge {L : DI} : ∀ q ∈ L, q.1 ≤ hiK L := by
  cases L with
  | nil => simp
  | cons q r =>
    obtain ⟨a1, a2, a3⟩ := hi_ge (r.map (·.1)) q.1
    intro x hx
    unfold hiK
    rcases List.mem_cons.mp hx with h | h
    · rw [h]; exact a1
    · exact a2 _ (List.mem_map.mpr ⟨x, h, rfl⟩)
def roomsL (lo hi d : Int) : List Int := if 0 < d then (List.range (hi + 1 - lo).toNat).map (fun (i : Nat) => lo + (i : Int) * 1) else (List.range (hi - (lo - 1)).toNat).map (fun (i : Nat) => hi + (i : Int) * (-1))
def overF (p : Int) (L : DI) (d : Int) (acc : DI) (r : Int) : DI := if (getI L r + getI acc (r - d)) % p = 0 then acc else putI acc r ((getI L r + getI acc (r - d)) % p)
def overL (p : Int) (L : DI) (d : Int) : DI := if L.isEmpty then [] else (roomsL (loK L) (hiK L) d).foldl (overF p L d) []
def spOver : SpD := fun ds M k _ => ∃ p L d, ds = [.int p, dicI L, .int d] ∧ 0 < p ∧ L.length ≤ 100000 ∧ -100000 ≤ loK L ∧ hiK L ≤ 100000 ∧ k (dicI (overL p L d)) M
theorem rd_lockV {te : TED} {δ : Sl} {M : Sto} {a : Addr} {L : DI} {k : DKt} (h : ∀ k : DKt, k (.ref a) (updM M a (.dic (kvsOf L))) → te δ (updM M a (.dic (kvsOf L))) k) (ha : M a = none) (hk : k (dicI L) M) : dLockD te δ (updM M a (.dic (kvsOf L))) k := by
  refine h _ ?_
  simp only [updM_same]
  rw [updM_del ha]; exact hk
theorem rd_emp {ta tb : TED} {δ : Sl} {M : Sto} {x : D} {L : DI} (e : dicOf M x = some (kvsOf L)) (h1 : ∀ k : DKt, k x M → ta δ M k) (h2 : ∀ k : DKt, k (.dic [] []) M → tb δ M k) (k : DKt) (hk : k (.bl L.isEmpty) M) : dOp (rEqE false) ta tb δ M k := h1 _ (h2 _ (by
  unfold rEqE
  simp only [e]
  have : (kvsOf L).isEmpty = L.isEmpty := by cases L <;> rfl
  rw [this]; exact hk))
theorem rooms_len (lo hi d : Int) : (roomsL lo hi d).length ≤ (hi + 1 - lo).toNat := by
  unfold roomsL; split <;> simp <;> omega
theorem overF_ok {p : Int} {L : DI} {d : Int} {acc : DI} {r : Int} (h : (acc.map (·.1)).Nodup) : ((overF p L d acc r).map (·.1)).Nodup ∧ (overF p L d acc r).length ≤ acc.length + 1 := by
  unfold overF
  split
  · exact ⟨h, by omega⟩
  · exact ⟨nodup_put h, len_put _ _ _⟩
/-! ### n s = c by p -/
theorem bez : ∀ a b : Nat, ∃ x y : Int, (a : Int) * x + (b : Int) * y = (Nat.gcd a b : Nat) := by
  intro a b
  induction a, b using Nat.gcd.induction with
  | H0 n => exact ⟨0, 1, by simp⟩
  | H1 m n hm ih =>
    obtain ⟨x, y, h⟩ := ih
    refine ⟨y - ((n / m : Nat) : Int) * x, x, ?_⟩
    have e1 : ((n % m : Nat) : Int) = (n : Int) - (m : Int) * ((n / m : Nat) : Int) := by
      have := Nat.div_add_mod n m
      have h2 : (m : Int) * ((n / m : Nat) : Int) + ((n % m : Nat) : Int) = n := by exact_mod_cast this
      omega
    rw [e1] at h
    rw [Nat.gcd_rec m n]
    rw [← h]
    rw [Int.mul_sub, Int.sub_mul, Int.mul_assoc]
    omega
theorem solv {p n c : Int} (hp : 0 < p) (hc : 0 ≤ c) (hc2 : c < p) (hg : c % ((Nat.gcd n.natAbs p.natAbs : Nat) : Int) = 0) : ∃ s : Nat, s < p.toNat ∧ (n * (s : Int)) % p = c := by
  obtain ⟨x, y, h⟩ := bez n.natAbs p.natAbs
  obtain ⟨t, ht⟩ := Int.dvd_of_emod_eq_zero hg
  have hpn : ((p.natAbs : Nat) : Int) = p := by omega
  obtain ⟨sg, hsg⟩ : ∃ sg : Int, (n.natAbs : Int) = n * sg := by
    by_cases h0 : 0 ≤ n
    · exact ⟨1, by omega⟩
    · exact ⟨-1, by omega⟩
  rw [hpn, hsg] at h
  have m0 := Int.emod_nonneg (sg * x * t) (show p ≠ 0 by omega)
  have m1 := Int.emod_lt_of_pos (sg * x * t) hp
  refine ⟨((sg * x * t) % p).toNat, by omega, ?_⟩
  rw [show ((((sg * x * t) % p).toNat : Nat) : Int) = (sg * x * t) % p by omega]
  rw [Int.mul_emod, Int.emod_emod_of_dvd _ (Int.dvd_refl p), ← Int.mul_emod]
  have e : n * (sg * x * t) = c + p * (-(y * t)) := by
    have h3 : n * (sg * x * t) = (n * sg * x) * t := by simp only [Int.mul_assoc]
    have h4 : n * sg * x = ((Nat.gcd n.natAbs p.natAbs : Nat) : Int) - p * y := by omega
    rw [h3, h4, Int.sub_mul, ← ht, Int.mul_neg, Int.mul_assoc]
    omega
  rw [e, Int.add_mul_emod_self_left]
  exact Int.emod_eq_of_lt hc hc2
def solsL (p n c : Int) : List Int := (List.range p.toNat).filterMap fun (i : Nat) => if (n * (i : Int)) % p = c then some (i : Int) else none
def solve (p n c : Int) : Int := (solsL p n c).getD 0 0
theorem sols_mem {p n c s : Int} (h : s ∈ solsL p n c) : 0 ≤ s ∧ s < p ∧ (n * s) % p = c := by
  obtain ⟨i, hi, e⟩ := List.mem_filterMap.mp h
  have hi := List.mem_range.mp hi
  split at e
  · rename_i h2
    cases e
    exact ⟨by omega, by omega, h2⟩
  · cases e
theorem sols_ne {p n c : Int} (hp : 0 < p) (hc : 0 ≤ c) (hc2 : c < p) (hg : c % ((Nat.gcd n.natAbs p.natAbs : Nat) : Int) = 0) : ∃ r, solsL p n c = solve p n c :: r := by
  obtain ⟨s, h1, h2⟩ := solv hp hc hc2 hg
  have hm : (s : Int) ∈ solsL p n c := List.mem_filterMap.mpr ⟨s, List.mem_range.mpr h1, if_pos h2⟩
  unfold solve
  cases e : solsL p n c with
  | nil => rw [e] at hm; cases hm
  | cons x r => exact ⟨r, rfl⟩
def divOk (p : Int) (L : DI) (n : Int) : Bool := L.all fun q => decide (q.2 % ((Nat.gcd n.natAbs p.natAbs : Nat) : Int) = 0)
def divM (p : Int) (L : DI) (n : Int) : DI := L.map fun q => (q.1, solve p n q.2)
def divD (p : Int) (L : DI) (n : Int) : D := if divOk p L n = true then dicI (divM p L n) else .non
def spDiv : SpD := fun ds M k _ => ∃ p L n, ds = [.int p, dicI L, .int n] ∧ OkL p L ∧ 0 < p ∧ p ≤ 1000 ∧ L.length ≤ 100000 ∧ 0 < n ∧ n < 2 ^ 62 ∧ k (divD p L n) M
theorem divM_keys (p : Int) (L : DI) (n : Int) : (divM p L n).map (·.1) = L.map (·.1) := by unfold divM; simp [List.map_map, Function.comp_def]
section
variable {P : Program} {w : World} {K : PySem.W.Frag} {mg : Str → Option Value} {base : Heap} {W : Wd}
theorem ok_lamps_over (Df : DefAt K mg "lamps_over" s_lamps_over ["p", "lamps", "d"]) (g : Gb K mg) (hW : W.K = K) : CalD P w K mg base W 1 "lamps_over" ["p", "lamps", "d"] spOver :=
  okC Df sc_lamps_over (fun ds M k e ⟨_, _, _, h, _⟩ => by rw [h]; rfl) fun f cdv A outer s H E F0 ds M kk e hr ⟨p, L, d, hd, hp, hl, hlo, hhi, hk⟩ => by
    subst hd
    refine ⟨_, (psd_cons (psd_set 3 sc_lamps_over.nd pd_dnew) (psd_cons (psd_if (ptd_cmp (od_eqE hr.units0) (pd_var 1) pd_dnewF (nomark _)) (psd_one (psd_ret (pd_lockD (pd_var 3)))) psd_nil) (psd_cons (psd_par 6 7 rfl sc_lamps_over.nd (pda_cons (pd_callB (cd_min rfl) rfl g.min_ PyProof.Rows.Boot.«min» (pda_cons (pd_callTy (cd_listD rfl) rfl g.list_ PyProof.Rows.Boot.«list» (pda_cons (pd_var 1) pda_nil)) pda_nil)) (pda_cons (pd_callB (cd_max rfl) rfl g.max_ PyProof.Rows.Boot.«max» (pda_cons (pd_callTy (cd_listD rfl) rfl g.list_ PyProof.Rows.Boot.«list» (pda_cons (pd_var 1) pda_nil)) pda_nil)) pda_nil))) (psd_cons (psd_set 4 sc_lamps_over.nd (pd_ifExp (ptd_cmp od_gt (pd_var 2) pd_int (nomark _)) (pd_listRg2 rfl g.list_ g.range_ (pda_cons (pd_var 6) (pda_cons (pd_op od_add (pd_var 7) pd_int) pda_nil))) (pd_listRg3 rfl g.list_ g.range_ (pda_cons (pd_var 7) (pda_cons (pd_op od_sub (pd_var 6) pd_int) (pda_cons (pd_un ud_neg pd_int) pda_nil)))))) (psd_cons (psd_for PassesOwn.never rfl (pid_list hW.symm (pd_var 4)) (pgd_name 5 sc_lamps_over.nd) (psd_cons (psd_set 8 sc_lamps_over.nd (pd_op od_mod (pd_op od_add (pd_dget2 (hu1 hr) (pd_var 1) (pd_var 5) pd_int) (pd_dget2 (hu1 hr) (pd_var 3) (pd_op od_sub (pd_var 5) (pd_var 2)) pd_int)) (pd_var 0))) (psd_one (psd_if (ptd_cmp (od_ne hr.units0) (pd_var 8) pd_int (nomark _)) (psd_one (psd_dput (hu1 hr) (pd_var 3) (pd_var 5) (pd_var 8))) psd_nil)))) (psd_one (psd_ret (pd_lockD (pd_var 3))))))))), ?_⟩
    refine rd_seqA (m := .dic (kvsOf [])) (fun k hk => hk) fun a ha => ?_
    refine rd_cut L.isEmpty (fun k hk => rd_emp (dicOf_dicI _ L) (fun k hk => hk) (fun k hk => hk) _ hk) (fun hb => ?_) fun hb => ?_
    · have e : overL p L d = [] := if_pos hb
      rw [e] at hk
      exact rd_ret (rd_lockV (fun k hk => hk) ha hk)
    · have hne : L ≠ [] := by intro z; rw [z] at hb; cases hb
      have hlen : 0 < (L.map (·.1)).length := by cases L with | nil => exact absurd rfl hne | cons _ _ => simp
      have hlh : loK L ≤ hiK L := by
        cases L with
        | nil => exact absurd rfl hne
        | cons q r => exact Int.le_trans (loK_le q List.mem_cons_self) (hiK_ge q List.mem_cons_self)
      have e : overL p L d = (roomsL (loK L) (hiK L) d).foldl (overF p L d) [] := if_neg (by rw [hb]; decide)
      refine rd_par (x := .int (loK L)) (y := .int (hiK L)) (fun k hk => rd_minL k (fun k hk => rd_listD (dicOf_dicI _ L) (fun k hk => hk) k hk) hlen fun m h1 h2 => by rw [loK_is hne h1 h2]; exact hk) (fun k hk => rd_maxL k (fun k hk => rd_listD (dicOf_dicI _ L) (fun k hk => hk) k hk) hlen fun m h1 h2 => by rw [hiK_is hne h1 h2]; exact hk) ?_
      refine rd_seqx (x := .lst ((roomsL (loK L) (hiK L) d).map D.int)) (fun k hk => rd_ifE (decide (0 < d)) (fun k hk => hk) (fun hb => ?_) fun hb => ?_) ?_
      · have e2 : roomsL (loK L) (hiK L) d = (List.range (hiK L + 1 - loK L).toNat).map (fun (i : Nat) => loK L + (i : Int) * 1) := if_pos (by simpa using hb)
        rw [e2, List.map_map] at hk
        exact ⟨⟨by omega, by omega, by omega, by omega, by omega⟩, hk⟩
      · have e2 : roomsL (loK L) (hiK L) d = (List.range (hiK L - (loK L - 1)).toNat).map (fun (i : Nat) => hiK L + (i : Int) * (-1)) := if_neg (by simpa using hb)
        rw [e2, List.map_map] at hk
        exact ⟨⟨by omega, by omega, by omega, by omega, by omega⟩, hk⟩
      have hrl := rooms_len (loK L) (hiK L) d
      refine rd_for (ds := (roomsL (loK L) (hiK L) d).map D.int) (M1 := updM M a (.dic (kvsOf []))) (fun r δ M' => ∃ (rs : List Int) (acc : DI) (y z : Option D), r = rs.map D.int ∧ δ = [some (.int p), some (dicI L), some (.int d), some (.ref a), some (.lst ((roomsL (loK L) (hiK L) d).map D.int)), y, some (.int (loK L)), some (.int (hiK L)), z] ∧ M' = updM M a (.dic (kvsOf acc)) ∧
        rs.foldl (overF p L d) acc = overL p L d ∧ (acc.map (·.1)).Nodup ∧ acc.length + rs.length ≤ 200001) (fun k hk => hk) ⟨_, [], none, none, rfl, rfl, rfl, e.symm, .nil, by simp; omega⟩ ?_ ?_
      · rintro x r δ M' K' ⟨rs, acc, y, z, hr1, rfl, rfl, hf, hn, hln⟩ hK
        cases rs with
        | nil => cases hr1
        | cons r0 rs =>
          obtain ⟨rfl, rfl⟩ := List.cons.inj hr1
          obtain ⟨hn2, hl2⟩ := overF_ok (p := p) (L := L) (d := d) (r := r0) hn
          simp only [List.length_cons] at hln
          refine rd_seqx (x := .int ((getI L r0 + getI acc (r0 - d)) % p)) (fun k hk => rd_modI _ p (fun k hk => rd_addI _ _ (fun k hk => rd_dget2I (j := r0) (dicOf_dicI _ L) (fun k hk => hk) (fun k hk => hk) (fun k hk => hk) k hk) (fun k hk => rd_dget2I (j := r0 - d) dicOf_ref (fun k hk => hk) (fun k hk => rd_subI r0 d (fun k hk => hk) (fun k hk => hk) k hk) (fun k hk => hk) k hk) k hk) (fun k hk => hk) hp k hk) ?_
          refine rd_if0 (!decide ((getI L r0 + getI acc (r0 - d)) % p = 0)) (fun k hk => hk) (fun hb => ?_) fun hb => ?_
          · have e3 : overF p L d acc r0 = putI acc r0 ((getI L r0 + getI acc (r0 - d)) % p) := if_neg (by simpa using hb)
            refine rd_dputS (L := acc) (j := r0) (v := (getI L r0 + getI acc (r0 - d)) % p) (fun k hk => hk) (fun k hk => hk) (fun k hk => hk) (by rw [sizeLine_eq]; omega) ?_
            rw [← e3]
            exact hK _ _ ⟨rs, _, some (.int r0), some (.int ((getI L r0 + getI acc (r0 - d)) % p)), rfl, rfl, rfl, hf, hn2, by omega⟩
          · have e3 : overF p L d acc r0 = acc := if_pos (by simpa using hb)
            exact hK _ _ ⟨rs, acc, some (.int r0), some (.int ((getI L r0 + getI acc (r0 - d)) % p)), rfl, rfl, rfl, by rw [← hf, List.foldl_cons, e3], hn, by omega⟩
      · rintro δ M' ⟨rs, acc, y, z, hr1, rfl, rfl, hf, hn, hln⟩
        cases rs with
        | cons _ _ => cases hr1
        | nil =>
          have hf : acc = overL p L d := hf
          rw [← hf] at hk
          exact rd_ret (rd_lockV (fun k hk => hk) ha hk)
theorem ok_divided_lamps (Df : DefAt K mg "divided_lamps" s_divided_lamps ["p", "lamps", "n"]) (g : Gb K mg) (hW : W.K = K) : CalD P w K mg base W 1 "divided_lamps" ["p", "lamps", "n"] spDiv :=
  okC Df sc_divided_lamps (fun ds M k e ⟨_, _, _, h, _⟩ => by rw [h]; rfl) fun f cdv A outer s H E F0 ds M kk e hr ⟨p, L, n, hd, hL, hp, hp2, hl, hn0, hn1, hk⟩ => by
    subst hd
    refine ⟨_, (psd_cons (psd_par 4 5 rfl sc_divided_lamps.nd (pda_cons pd_dnew (pda_cons (pd_callBfun cd_gcd rfl g.gcd_ (pda_cons (pd_var 2) (pda_cons (pd_var 0) pda_nil))) pda_nil))) (psd_cons (psd_for PassesOwn.never rfl (pid_keys (pd_var 1)) (pgd_name 3 sc_divided_lamps.nd) (psd_cons (psd_if (ptd_cmp (od_ne hr.units0) (pd_op od_mod (pd_dget (hu1 hr) (pd_var 1) (pd_var 3)) (pd_var 5)) pd_int (nomark _)) (psd_one (psd_ret (pd_forget 4 pd_non))) psd_nil) (psd_one (psd_dput (hu1 hr) (pd_var 4) (pd_var 3) (pd_ix (pd_lc (own := [("standing", 6)]) rfl sc_divided_lamps.nd (pid_range1 g.range_ (pda_cons (pd_var 0) pda_nil)) (blkOk_by (by first | kernel_rfl | rfl)) (sim_name (i := 6) (by decide)) (fun _ _ _ _ _ => pg_name (i := 6) sc_divided_lamps.nd rfl (by first | exact Or.inl rfl | exact Or.inr rfl)) (fun _ _ _ _ _ => ptsd_one (ptd_cmp (od_eq hr.units0) (pd_op od_mod (pd_op od_mul (pd_var 2) (pd_var 6)) (pd_var 0)) (pd_dget (hu1 hr) (pd_var 1) (pd_var 3)) (nomark _))) (fun _ _ _ _ _ => (pd_var 6))) pd_int))))) (psd_one (psd_ret (pd_lockD (pd_var 4)))))), ?_⟩
    intro a ha
    have gpos : 0 < ((Nat.gcd n.natAbs p.natAbs : Nat) : Int) := by
      have := Nat.gcd_pos_of_pos_left p.natAbs (show 0 < n.natAbs by omega)
      omega
    generalize hG : ((Nat.gcd n.natAbs p.natAbs : Nat) : Int) = G at gpos
    refine (show dSeq (dFor (dItK (dVar 1)) (gNm 3) _) _ _ [some (.int p), some (dicI L), some (.int n), none, some (.ref a), some (.int ((Nat.gcd n.natAbs p.natAbs : Nat) : Int)), none] (updM M a (.dic (kvsOf []))) from ?_)
    rw [hG]
    refine rd_for (ds := (L.map (·.1)).map D.int) (M1 := updM M a (.dic (kvsOf []))) (fun r δ M' => ∃ (dn rs : DI) (y z : Option D), r = (rs.map (·.1)).map D.int ∧ L = dn ++ rs ∧ δ = [some (.int p), some (dicI L), some (.int n), y, some (.ref a), some (.int G), z] ∧ M' = updM M a (.dic (kvsOf (divM p dn n))) ∧ divOk p dn n = true) (fun k hk => rd_itK (fun k hk => hk) k hk) ⟨[], L, none, none, rfl, rfl, rfl, rfl, rfl⟩ ?_ ?_
    · rintro x r δ M' K' ⟨dn, rs, y, z, hr1, hs, rfl, rfl, hok⟩ hK
      cases rs with
      | nil => cases hr1
      | cons q rs =>
        obtain ⟨rfl, rfl⟩ := List.cons.inj hr1
        have hq : q ∈ L := by rw [hs]; simp
        have gq : getI L q.1 = q.2 := getI_mem hL.nd hq
        have vq := hL.v q hq
        have mq : q.1 ∈ L.map (·.1) := List.mem_map.mpr ⟨q, hq, rfl⟩
        refine rd_cut (!decide (q.2 % G = 0)) (fun k hk => rd_op (x := .int (q.2 % G)) (y := .int 0) _ (fun k hk => rd_modI q.2 G (fun k hk => rd_dgetI (j := q.1) (dicOf_dicI _ L) (fun k hk => hk) (fun k hk => hk) mq k (by rw [gq]; exact hk)) (fun k hk => hk) gpos k hk) (fun k hk => hk) hk) (fun hb => ?_) fun hb => ?_
        · have e : divD p L n = .non := if_neg (by
            intro z
            have h1 := List.all_eq_true.mp z q hq
            rw [hG] at h1
            rw [h1] at hb; cases hb)
          rw [e] at hk
          refine rd_ret (rd_forget rfl (fun k hk => hk) updM_same rfl ?_)
          rw [updM_del ha]; exact hk
        · have hc : q.2 % G = 0 := by simpa using hb
          have hc' : q.2 % ((Nat.gcd n.natAbs p.natAbs : Nat) : Int) = 0 := by rw [hG]; exact hc
          obtain ⟨rest, hrest⟩ := sols_ne (p := p) (n := n) (c := q.2) hp (by omega) vq.2 hc'
          have hnew : ¬ q.1 ∈ (divM p dn n).map (·.1) := by
            rw [divM_keys]
            have h1 := hL.nd
            rw [hs, List.map_append, List.map_cons, List.nodup_append] at h1
            intro z
            exact h1.2.2 _ z _ List.mem_cons_self rfl
          have hdl : (divM p dn n).length < sizeLine := by
            have : dn.length ≤ L.length := by rw [hs]; simp
            unfold divM
            rw [List.length_map, sizeLine_eq]; omega
          refine rd_dputS (L := divM p dn n) (j := q.1) (v := solve p n q.2) (fun k hk => ?_) (fun k hk => hk) (fun k hk => hk) hdl ?_
          · refine rd_ixI (x := .lst ((solsL p n q.2).map D.int)) (xs := solsL p n q.2) (j := 0) rfl (fun k hk => ?_) (fun k hk => hk) (by omega) (by rw [hrest]; simp) _ ?_
            · refine rd_lcf (ds := (List.range p.toNat).map fun (i : Nat) => D.int (i : Int)) (fun x => match x with | .int s => (if (n * s) % p = q.2 then some (.int s) else none) | _ => none) (fun k hk => ⟨by omega, by omega, hk⟩) (by rw [sizeLine_eq]; simp; omega) (fun d0 hd0 Mx sM kx hx => ?_) k ?_
              · obtain ⟨i, hi, rfl⟩ := List.mem_map.mp hd0
                have hx : kx (if (n * (i : Int)) % p = q.2 then some (.int (i : Int)) else none) Mx := hx
                refine el_if (decide ((n * (i : Int)) % p = q.2)) (fun k hk => ?_) (fun hb => ?_) fun hb => ?_
                · exact rd_op (x := .int ((n * (i : Int)) % p)) (y := .int q.2) _ (fun k hk => rd_modI _ p (fun k hk => rd_mulI n i (fun k hk => hk) (fun k hk => hk) (mulW (by omega) (by omega)) k hk) (fun k hk => hk) hp k hk) (fun k hk => rd_dgetI (j := q.1) (dicOf_dicI _ L) (fun k hk => hk) (fun k hk => hk) mq k (by rw [gq]; exact hk)) hk
                · rw [if_pos (by simpa using hb)] at hx; exact hx
                · rw [if_neg (by simpa using hb)] at hx; exact hx
              · have e2 : ((List.range p.toNat).map fun (i : Nat) => D.int (i : Int)).filterMap (fun x => match x with | .int s => (if (n * s) % p = q.2 then some (D.int s) else none) | _ => none) = (solsL p n q.2).map D.int := by
                  unfold solsL
                  rw [List.filterMap_map, List.map_filterMap]
                  congr 1
                  funext i
                  show (if (n * (i : Int)) % p = q.2 then some (D.int (i : Int)) else none) = Option.map D.int (if (n * (i : Int)) % p = q.2 then some (i : Int) else none)
                  split <;> rfl
                rw [e2]; exact hk
            · exact hk
          · rw [putI_new hnew]
            have e4 : divM p dn n ++ [(q.1, solve p n q.2)] = divM p (dn ++ [q]) n := by unfold divM; simp
            rw [e4]
            refine hK _ _ ⟨dn ++ [q], rs, some (.int q.1), z, rfl, by rw [hs]; simp, rfl, rfl, ?_⟩
            unfold divOk at hok ⊢
            rw [List.all_append, hok, List.all_cons, hc']; rfl
    · rintro δ M' ⟨dn, rs, y, z, hr1, hs, rfl, rfl, hok⟩
      cases rs with
      | cons _ _ => cases hr1
      | nil =>
        have hs : dn = L := by rw [hs]; simp
        rw [hs] at hok
        have e : divD p L n = dicI (divM p L n) := if_pos hok
        rw [e] at hk
        rw [hs]
        exact rd_ret (rd_lockV (fun k hk => hk) ha hk)
end
end Kx
set_option maxHeartbeats 2000000
namespace Kx
open PySem PySem.Spec L2 DL
/-! ### the shortest letters -/
structure Wk where
  room : Int
  met : List Int
  ls : List Int
def stepK (p : Int) (L : DI) (t : Int) (s : Wk) : Wk := if s.room + t ∈ s.met then ⟨s.room + t, s.met, s.ls ++ [t]⟩ else ⟨s.room + t, s.met ++ [s.room + t], s.ls ++ [t] ++ turnL p (getI L (s.room + t))⟩
def goK (p : Int) (L : DI) (t : Int) : Nat → Wk → Wk
  | 0, s => s
  | n + 1, s => goK p L t n (stepK p L t s)
def sgnK (room g : Int) : Int := if room < g then 1 else -1
def legK (p : Int) (L : DI) (s : Wk) (g : Int) : Wk := goK p L (sgnK s.room g) (g - s.room).natAbs s
def startK (p : Int) (L : DI) : Wk := ⟨0, [0], turnL p (getI L 0)⟩
def goalsK (e : Int) (L : DI) : List Int := [(bestW e L).2.1, (bestW e L).2.2, e]
def shortK (p e : Int) (L : DI) : Wk := (goalsK e L).foldl (legK p L) (startK p L)
def spShort : SpD := fun ds M k _ => ∃ p e L, ds = [.int p, .int e, dicI L] ∧ OkL p L ∧ 0 < p ∧ p ≤ 1000 ∧ L.length ≤ 100000 ∧ (∀ q ∈ L, q.1.natAbs ≤ 1000) ∧ e.natAbs ≤ 1000 ∧ k (.tup ((shortK p e L).ls.map D.int)) M
def metD (ms : List Int) : List (Key × D) := ms.map fun r => (Sum.inl r, D.bl true)
def STm (M : Sto) (am al : Addr) (ms ls : List Int) : Sto := updM (updM M am (.dic (metD ms))) al (.lst (ls.map D.int))
section
variable {M : Sto} {am al : Addr} {ms ls : List Int}
theorem stm_l : STm M am al ms ls al = some (.lst (ls.map D.int)) := updM_same
theorem stm_m (h : am ≠ al) : STm M am al ms ls am = some (.dic (metD ms)) := by unfold STm; rw [updM_ne h]; exact updM_same
theorem stm_ul {ls' : List Int} : updM (STm M am al ms ls) al (.lst (ls'.map D.int)) = STm M am al ms ls' := updM_upd
theorem stm_um (h : am ≠ al) {ms' : List Int} : updM (STm M am al ms ls) am (.dic (metD ms')) = STm M am al ms' ls := by
  funext b
  unfold STm updM
  by_cases h1 : b = am
  · subst h1; simp [h]
  · simp [h1]
theorem stm_del (h : am ≠ al) (hm : M am = none) (hl : M al = none) : delM (delM (STm M am al ms ls) al) am = M := by
  funext b
  unfold STm updM delM
  by_cases h1 : b = am
  · subst h1; simp [h, hm]
  · by_cases h2 : b = al
    · subst h2; simp [h1, hl]
    · simp [h1, h2]
theorem stm_del2 (h : am ≠ al) (hm : M am = none) (hl : M al = none) : delM (delM (STm M am al ms ls) am) al = M := by
  funext b
  unfold STm updM delM
  by_cases h1 : b = am
  · subst h1; simp [h, hm]
  · by_cases h2 : b = al
    · subst h2; simp [hl]
    · simp [h1, h2]
end
theorem met_look (ms : List Int) (r : Int) : (lookD (metD ms) (.inl r)).isSome = decide (r ∈ ms) := by
  unfold lookD metD
  rw [Option.isSome_map]
  induction ms with
  | nil => rfl
  | cons x ms ih =>
    rw [List.map_cons, List.find?_cons]
    by_cases h : x = r
    · subst h; simp
    · have h1 : decide ((Sum.inl x : Key) = Sum.inl r) = false := by simpa using h
      rw [h1, ih]
      have h2 : ¬ r = x := fun z => h z.symm
      simp [h2]
theorem met_put {ms : List Int} {r : Int} (h : ¬ r ∈ ms) : putD (metD ms) (.inl r) (.bl true) = metD (ms ++ [r]) := by
  unfold putD
  rw [if_neg]
  · unfold metD; simp
  · intro z
    obtain ⟨kv, hk, e⟩ := List.any_eq_true.mp z
    obtain ⟨x, hx, rfl⟩ := List.mem_map.mp hk
    have e2 : x = r := by simpa using e
    exact h (e2 ▸ hx)
theorem rd_lockL {te : TED} {δ : Sl} {M : Sto} {xs : List D} (h : ∀ K : DKt, (∀ b, M b = none → K (.ref b) (updM M b (.lst xs))) → te δ M K) (k : DKt) (hk : k (.lst xs) M) : dLockL te δ M k := by
  refine h _ fun b hb => ?_
  simp only [updM_same]
  rw [updM_del hb]; exact hk
theorem rd_notin {ty td : TED} {δ : Sl} {M : Sto} {x : D} {ms : List Int} {r : Int} (e : dicOf M x = some (metD ms)) (h1 : ∀ k : DKt, k (.int r) M → ty δ M k) (h2 : ∀ k : DKt, k x M → td δ M k) (k : DKt) (hk : k (.bl (!decide (r ∈ ms))) M) : rInDic true ty td δ M k := h1 _ (h2 _ (by
  simp only [e, keyD, if_true]
  rw [met_look]; exact hk))
theorem rd_ext {td te : TED} {d : EndD} {δ : Sl} {M : Sto} {ds ys : List D} {a : Addr} (h1 : ∀ k : DKt, k (.ref a) M → td δ M k) (hM : M a = some (.lst ds)) (h2 : ∀ k : DKt, k (.lst ys) M → te δ M k) (hl : ds.length + ys.length ≤ sizeLine) (h : d.nx δ (updM M a (.lst (ds ++ ys)))) : dDrop (dExtend td te) d δ M := by
  refine h1 _ ⟨by unfold lstOf; simp only [hM]; rfl, h2 _ ?_⟩
  unfold extK
  show (match M a with | some (.lst ds) => ds.length + ys.length ≤ sizeLine ∧ _ | _ => False)
  simp only [hM]
  exact ⟨hl, h⟩
theorem rd_augI {i : Nat} {te : TED} {d : EndD} {δ : Sl} {M : Sto} {a b : Int} (e : δ[i]? = some (some (.int a))) (h : ∀ k : DKt, k (.int b) M → te δ M k) (hn : d.nx (δ.set i (some (.int (a + b)))) M) : dAug i te rAddI d δ M := by
  unfold dAug
  simp only [e]
  exact h _ hn
theorem rd_augIs {i : Nat} {te : TED} {u : TSD} {d : EndD} {δ : Sl} {M : Sto} {a b : Int} (e : δ[i]? = some (some (.int a))) (h : ∀ k : DKt, k (.int b) M → te δ M k) (hn : u d (δ.set i (some (.int (a + b)))) M) : dSeq (dAug i te rAddI) u d δ M := rd_augI e h hn
theorem rd_whileI {tt : TTD} {tb : TSD} {d : EndD} {δ : Sl} {M : Sto} (P : Nat → Sl → Sto → Prop) (h0 : ∃ m, P m δ M) (h : ∀ m δ M, P m δ M → ∃ b : Bool, (∀ k : Bool → Sto → Prop, k b M → tt δ M k) ∧ (b = true → tb { d with nx := fun δ2 M2 => ∃ m', m' < m ∧ P m' δ2 M2, ct := fun δ2 M2 => ∃ m', m' < m ∧ P m' δ2 M2, bk := d.nx } δ M) ∧ (b = false → d.nx δ M)) : dWhile tt tb d δ M := ⟨P, h0, fun m δ M p => by
  obtain ⟨b, h1, h2, h3⟩ := h m δ M p
  refine h1 _ ?_
  cases b with
  | true => exact h2 rfl
  | false => exact h3 rfl⟩
theorem rd_forgetS {i : Nat} {te : TED} {δ : Sl} {M M1 : Sto} {x : D} {a : Addr} {m : MO} {k : DKt} (e : δ[i]? = some (some (.ref a))) (h : ∀ k : DKt, k x M1 → te δ M k) (hM : M1 a = some m) (hm : m.loose = true) (hk : k x (delM M1 a)) : dForget i te δ M k := by
  unfold dForget
  simp only [e]
  refine h _ ?_
  simp only [hM]
  exact ⟨hm, hk⟩
theorem dicOf_st {M : Sto} {am al : Addr} {ms ls : List Int} (h : am ≠ al) : dicOf (STm M am al ms ls) (.ref am) = some (metD ms) := by
  unfold dicOf; simp only [stm_m h]
theorem rd_parA {ta tb : TED} {i j : Nat} {u : TSD} {d : EndD} {δ : Sl} {M : Sto} {x : D} {m : MO} (h1 : ∀ k : DKt, k x M → ta δ M k) (h2 : ∀ k : DKt, (∀ a, M a = none → k (.ref a) (updM M a m)) → tb δ M k) (hn : ∀ a, M a = none → u d ((δ.set i (some x)).set j (some (.ref a))) (updM M a m)) : dSeq (dPar i j (dCons ta (dCons tb dNil))) u d δ M := h1 _ (h2 _ hn)
theorem turn_len {p s : Int} (h0 : 0 ≤ s) (h1 : s < p) (hp : p ≤ 1000) : (turnL p s).length ≤ 1000 := by
  unfold turnL; split <;> simp <;> omega
theorem go_len {p : Int} {L : DI} (hL : OkL p L) (hp0 : 0 < p) (hp : p ≤ 1000) (t : Int) : ∀ (n : Nat) (s : Wk), (goK p L t n s).ls.length ≤ s.ls.length + 1001 * n ∧ (goK p L t n s).met.length ≤ s.met.length + n ∧ (goK p L t n s).room = s.room + t * n
  | 0, s => ⟨by show s.ls.length ≤ _; omega, by show s.met.length ≤ _; omega, by show s.room = _; simp⟩
  | n + 1, s => by
    obtain ⟨h1, h2, h3⟩ := go_len hL hp0 hp t n (stepK p L t s)
    have hg := hL.get hp0 (s.room + t)
    have ht := turn_len hg.1 hg.2 hp
    have e : (stepK p L t s).ls.length ≤ s.ls.length + 1001 ∧ (stepK p L t s).met.length ≤ s.met.length + 1 ∧ (stepK p L t s).room = s.room + t := by
      unfold stepK
      split <;> simp <;> omega
    refine ⟨?_, ?_, ?_⟩
    · show (goK p L t n (stepK p L t s)).ls.length ≤ _; omega
    · show (goK p L t n (stepK p L t s)).met.length ≤ _; omega
    · show (goK p L t n (stepK p L t s)).room = _
      rw [h3, e.2.2, Int.natCast_add, Int.mul_add]; omega
theorem sgn_go (room g : Int) : room + sgnK room g * ((g - room).natAbs : Int) = g := by
  unfold sgnK; split <;> omega
theorem leg_room {p : Int} {L : DI} (hL : OkL p L) (hp0 : 0 < p) (hp : p ≤ 1000) (s : Wk) (g : Int) : (legK p L s g).room = g := by
  unfold legK
  rw [(go_len hL hp0 hp _ _ s).2.2, sgn_go]
theorem best_in {L : DI} {e : Int} (h : ∀ q ∈ L, q.1.natAbs ≤ 1000) (he : e.natAbs ≤ 1000) : (bestW e L).2.1.natAbs ≤ 1000 ∧ (bestW e L).2.2.natAbs ≤ 1000 := by
  have hm : ∀ y ∈ L.map (·.1), y.natAbs ≤ 1000 := fun y hy => by
    obtain ⟨q, hq, rfl⟩ := List.mem_map.mp hy
    exact h q hq
  obtain ⟨a1, a2, a3⟩ := lo_le (L.map (·.1)) 0
  obtain ⟨b1, b2, b3⟩ := hi_ge (L.map (·.1)) 0
  have h1 : (loL L).natAbs ≤ 1000 := by
    unfold loL
    rcases a3 with z | z
    · rw [z]; decide
    · exact hm _ z
  have h2 : (hiL L).natAbs ≤ 1000 := by
    unfold hiL
    rcases b3 with z | z
    · rw [z]; decide
    · exact hm _ z
  unfold bestW
  dsimp only
  split
  · exact ⟨h1, by show (max (hiL L) e).natAbs ≤ 1000; omega⟩
  · exact ⟨h2, by show (min (loL L) e).natAbs ≤ 1000; omega⟩
section
variable {P : Program} {w : World} {K : PySem.W.Frag} {mg : Str → Option Value} {base : Heap} {W : Wd}
theorem ok_shortest_letters (Df : DefAt K mg "shortest_letters" s_shortest_letters ["p", "end", "lamps"]) (g : Gb K mg) (hW : W.K = K) (c_turning_letters : CalD P w K mg base W 1 "turning_letters" ["p", "standing"] spTurn) (c_best_way : CalD P w K mg base W 1 "best_way" ["end", "lamps"] spBest) : CalD P w K mg base W 2 "shortest_letters" ["p", "end", "lamps"] spShort :=
  okC Df sc_shortest_letters (fun ds M k e ⟨_, _, _, h, _⟩ => by rw [h]; rfl) fun f cdv A outer s H E F0 ds M kk e hr ⟨p, e0, L, hd, hL, hp, hp2, hl, hro, he, hk⟩ => by
    subst hd
    refine ⟨_, (psd_cons (psd_par 5 6 rfl sc_shortest_letters.nd (pda_cons pd_int (pda_cons (pd_dispM (ppd_cons (kk := .inl 0) pd_int pd_bl ppd_nil) (by decide +kernel)) pda_nil))) (psd_cons (psd_set 3 sc_shortest_letters.nd (pd_cal c_turning_letters (hr.mono (by decide)) (pda_cons (pd_var 0) (pda_cons (pd_dget2 (hu1 hr) (pd_var 2) pd_int pd_int) pda_nil)))) (psd_cons (psd_for PassesOwn.never rfl (pid_tup hW.symm (pd_op od_add (pd_ix (pd_cal c_best_way (hr.mono (by decide)) (pda_cons (pd_var 1) (pda_cons (pd_var 2) pda_nil))) pd_int) (pd_tup (pda_cons (pd_var 1) pda_nil)))) (pgd_name 4 sc_shortest_letters.nd) (psd_cons (psd_set 7 sc_shortest_letters.nd (pd_ifExp (ptd_cmp od_gt (pd_var 4) (pd_var 5) (nomark _)) pd_int (pd_un ud_neg pd_int))) (psd_one (psd_while PassesOwn.never (ptd_cmp (od_ne hr.units0) (pd_var 5) (pd_var 4) (nomark _)) (psd_cons (psd_aug 5 sc_shortest_letters.nd (pd_var 7) ip_addD) (psd_cons (psd_expr (pd_append (pd_var 3) (pd_var 7))) (psd_one (psd_if (ptd_dnotin (hu1 hr) (pd_var 5) (pd_var 6)) (psd_cons (psd_dput (hu1 hr) (pd_var 6) (pd_var 5) pd_bl) (psd_one (psd_expr (pd_extend (pd_var 3) (pd_lockL (pd_cal c_turning_letters (hr.mono (by decide)) (pda_cons (pd_var 0) (pda_cons (pd_dget2 (hu1 hr) (pd_var 2) (pd_var 5) pd_int) pda_nil)))))))) psd_nil)))))))) (psd_one (psd_ret (pd_forget 3 <| pd_forget 6 (pd_callTy cd_tuple rfl g.tuple_ PyProof.Rows.Boot.«tuple» (pda_cons (pd_var 3) pda_nil)))))))), ?_⟩
    have hg0 := hL.get hp 0
    refine rd_parA (x := .int 0) (m := .dic (metD [0])) (fun k hk => hk) (fun k hk a ha => ⟨M, ha, rfl, hk a ha⟩) fun am ham => ?_
    refine rd_seqA (m := .lst ((turnL p (getI L 0)).map D.int)) (fun k hk => rd_call k (fun k hk => rd_acons (.int p) [.int (getI L 0)] (fun k hk => hk) (fun k hk => rd_acons (.int (getI L 0)) [] (fun k hk => rd_dget2I (j := 0) (dicOf_dicI _ L) (fun k hk => hk) (fun k hk => hk) (fun k hk => hk) k hk) (fun k hk => hk) k hk) k hk) ⟨p, getI L 0, rfl, hp, hp2, hg0.1, hg0.2, hk⟩) fun al hal => ?_
    have hne : am ≠ al := fun z => by rw [← z, updM_same] at hal; cases hal
    have hal2 : M al = none := by rw [updM_ne hne.symm] at hal; exact hal
    have ht0 := turn_len hg0.1 hg0.2 hp2
    obtain ⟨bi1, bi2⟩ := best_in hro he
    refine rd_for (ds := (goalsK e0 L).map D.int) (M1 := STm M am al [0] (turnL p (getI L 0))) (fun r δ M' => ∃ (gs : List Int) (s : Wk) (y4 y7 : Option D), r = gs.map D.int ∧ δ = [some (.int p), some (.int e0), some (dicI L), some (.ref al), y4, some (.int s.room), some (.ref am), y7] ∧ M' = STm M am al s.met s.ls ∧
      gs.foldl (legK p L) s = shortK p e0 L ∧ (∀ g ∈ gs, g.natAbs ≤ 1000) ∧ s.room.natAbs ≤ 1000 ∧ s.ls.length + 2002000 * gs.length ≤ 6007000 ∧ s.met.length + 2000 * gs.length ≤ 6001) (fun k hk => ?_) ?_ ?_ ?_
    · refine rd_itT (fun k hk => rd_op (x := .tup [.int (bestW e0 L).2.1, .int (bestW e0 L).2.2]) (y := .tup [.int e0]) k (fun k hk => rd_op (x := .tup [.int (bestW e0 L).1, .tup [.int (bestW e0 L).2.1, .int (bestW e0 L).2.2]]) (y := .int 1) k (fun k hk => rd_call k (fun k hk => hk) ⟨e0, L, rfl, hl, hk⟩) (fun k hk => hk) hk) (fun k hk => ⟨by rw [sizeLine_eq]; simp, hk⟩) ⟨by rw [sizeLine_eq]; simp, hk⟩) k hk
    · refine ⟨goalsK e0 L, startK p L, none, none, rfl, rfl, rfl, rfl, fun g hg => ?_, by show (0 : Int).natAbs ≤ 1000; decide, ?_, ?_⟩
      · simp only [goalsK, List.mem_cons, List.not_mem_nil, or_false] at hg
        rcases hg with rfl | rfl | rfl
        · exact bi1
        · exact bi2
        · exact he
      · show (turnL p (getI L 0)).length + 2002000 * 3 ≤ _; omega
      · show 1 + 2000 * 3 ≤ _; omega
    · rintro x r δ M' K' ⟨gs, s, y4, y7, hr1, rfl, rfl, hf, hgs, hrm, hln, hmt⟩ hK
      cases gs with
      | nil => cases hr1
      | cons g gs =>
        obtain ⟨rfl, rfl⟩ := List.cons.inj hr1
        have hg1 := hgs g List.mem_cons_self
        simp only [List.length_cons] at hln hmt
        refine rd_seqx (x := .int (sgnK s.room g)) (fun k hk => rd_ifE (decide (s.room < g)) (fun k hk => hk) (fun hb => ?_) fun hb => ?_) ?_
        · have e : sgnK s.room g = 1 := if_pos (by simpa using hb)
          rw [e] at hk; exact hk
        · have e : sgnK s.room g = -1 := if_neg (by simpa using hb)
          rw [e] at hk; exact hk
        generalize htt : sgnK s.room g = t
        have htv : t = 1 ∨ t = -1 := by rw [← htt]; unfold sgnK; split <;> simp
        have hleg : legK p L s g = goK p L t (g - s.room).natAbs s := by unfold legK; rw [htt]
        have hsg := sgn_go s.room g
        rw [htt] at hsg
        refine rd_whileI (fun m δ M' => ∃ s' : Wk, δ = [some (.int p), some (.int e0), some (dicI L), some (.ref al), some (.int g), some (.int s'.room), some (.ref am), some (.int t)] ∧ M' = STm M am al s'.met s'.ls ∧ s'.room + t * m = g ∧ goK p L t m s' = legK p L s g ∧ s'.ls.length + 1001 * m + 2002000 * gs.length ≤ 6007000 ∧ s'.met.length + m + 2000 * gs.length ≤ 6001) ⟨(g - s.room).natAbs, s, rfl, rfl, hsg, hleg.symm, by omega, by omega⟩ ?_
        rintro m δ M' ⟨s', rfl, rfl, hr2, hgo, hl1, hm1⟩
        refine ⟨!decide (s'.room = g), fun k hk => hk, fun hb => ?_, fun hb => ?_⟩
        · have hne2 : s'.room ≠ g := by simpa using hb
          cases m with
          | zero => simp at hr2; exact absurd hr2 hne2
          | succ m =>
            have hgr := hL.get hp (s'.room + t)
            have htl := turn_len hgr.1 hgr.2 hp2
            have hr3 : s'.room + t + t * (m : Int) = g := by rw [← hr2, Int.natCast_add, Int.mul_add]; omega
            refine rd_augIs rfl (fun k hk => hk) ?_
            refine rd_app (a := al) (ds := s'.ls.map D.int) (x := .int t) (fun k hk => hk) stm_l (fun k hk => hk) (by rw [sizeLine_eq, List.length_map]; omega) ?_
            rw [show s'.ls.map D.int ++ [D.int t] = (s'.ls ++ [t]).map D.int by simp, stm_ul]
            refine rd_if0 (!decide (s'.room + t ∈ s'.met)) (fun k hk => rd_notin (ms := s'.met) (r := s'.room + t) (dicOf_st hne) (fun k hk => hk) (fun k hk => hk) _ hk) (fun hb => ?_) fun hb => ?_
            · have hni : ¬ s'.room + t ∈ s'.met := by simpa using hb
              have es : stepK p L t s' = ⟨s'.room + t, s'.met ++ [s'.room + t], s'.ls ++ [t] ++ turnL p (getI L (s'.room + t))⟩ := if_neg hni
              refine rd_dput0 (a := am) (L := metD s'.met) (y := .int (s'.room + t)) (kk := .inl (s'.room + t)) (v := .bl true) (fun k hk => hk) (fun k hk => hk) (fun k hk => hk) rfl (stm_m hne) (by rw [sizeLine_eq]; unfold metD; rw [List.length_map]; omega) ?_
              rw [met_put hni, stm_um hne]
              refine rd_ext (a := al) (ds := (s'.ls ++ [t]).map D.int) (ys := (turnL p (getI L (s'.room + t))).map D.int) (fun k hk => hk) stm_l (fun k hk => rd_lockL (fun K hK => ?_) k hk) (by rw [sizeLine_eq]; simp; omega) ?_
              · exact rd_call K (fun k hk => rd_acons (.int p) [.int (getI L (s'.room + t))] (fun k hk => hk) (fun k hk => rd_acons (.int (getI L (s'.room + t))) [] (fun k hk => rd_dget2I (j := s'.room + t) (dicOf_dicI _ L) (fun k hk => hk) (fun k hk => hk) (fun k hk => hk) k hk) (fun k hk => hk) k hk) k hk) ⟨p, getI L (s'.room + t), rfl, hp, hp2, hgr.1, hgr.2, hK⟩
              · rw [← List.map_append, stm_ul]
                exact ⟨m, Nat.lt_succ_self m, stepK p L t s', by rw [es]; rfl, by rw [es], by rw [es]; exact hr3, hgo, by rw [es]; simp; omega, by rw [es]; simp; omega⟩
            · have hni : s'.room + t ∈ s'.met := by simpa using hb
              have es : stepK p L t s' = ⟨s'.room + t, s'.met, s'.ls ++ [t]⟩ := if_pos hni
              exact ⟨m, Nat.lt_succ_self m, stepK p L t s', by rw [es]; rfl, by rw [es], by rw [es]; exact hr3, hgo, by rw [es]; simp; omega, by rw [es]; simp; omega⟩
        · have heq : s'.room = g := by simpa using hb
          have hm0 : m = 0 := by
            rcases htv with z | z <;> rw [z] at hr2 <;> omega
          subst hm0
          have hs : s' = legK p L s g := hgo
          refine hK _ _ ⟨gs, s', some (.int g), some (.int t), rfl, rfl, rfl, by rw [hs]; exact hf, fun z hz => hgs z (List.mem_cons_of_mem _ hz), by rw [heq]; exact hg1, by omega, by omega⟩
    · rintro δ M' ⟨gs, s, y4, y7, hr1, rfl, rfl, hf, hgs, hrm, hln, hmt⟩
      cases gs with
      | cons _ _ => cases hr1
      | nil =>
        have hf : s = shortK p e0 L := hf
        rw [← hf] at hk
        have sq : seqOf (STm M am al s.met s.ls) (.ref al) = some (s.ls.map D.int) := by unfold seqOf; simp only [stm_l]
        have hdm : (delM (STm M am al s.met s.ls) am) al = some (.lst (s.ls.map D.int)) := by unfold delM; rw [if_neg (fun z => hne z.symm)]; exact stm_l
        refine rd_ret (rd_forgetS (a := al) (x := .tup (s.ls.map D.int)) (M1 := delM (STm M am al s.met s.ls) am) rfl (fun k hk => rd_forgetS (a := am) (x := .tup (s.ls.map D.int)) (M1 := STm M am al s.met s.ls) rfl (fun k hk => rd_cb1 k (fun k hk => hk) ?_) (stm_m hne) rfl hk) hdm rfl ?_)
        · show (match seqOf _ (.ref al) with | some xs => k (.tup xs) _ | none => False)
          simp only [sq]; exact hk
        · rw [stm_del2 hne ham hal2]; exact hk
end
end Kx
set_option maxHeartbeats 2000000
namespace Kx
open PySem PySem.Spec L2 DL
/-! ### parts -/
theorem nz_ok {p : Int} {L : DI} (hn : (L.map (·.1)).Nodup) (h : ∀ q ∈ L, 0 ≤ q.2 ∧ q.2 < p) : OkL p (nz L) := ⟨nodup_nz hn, fun q hq => by
  obtain ⟨h1, h2⟩ := List.mem_filter.mp hq
  have h3 : q.2 ≠ 0 := by simpa using h2
  have := h q h1
  omega⟩
theorem mem_putI_key {L : DI} {k v : Int} {q : Int × Int} (h : q ∈ putI L k v) : q.1 ∈ L.map (·.1) ∨ q.1 = k := by
  rcases mem_putI h with h | h
  · exact .inl (List.mem_map.mpr ⟨q, h, rfl⟩)
  · exact .inr (by rw [h])
/-- what a fold of puts keeps -/
theorem addFs_in {p c : Int} (hp : 0 < p) (B : Nat) : ∀ (L acc : DI), (∀ q ∈ acc, q.1.natAbs ≤ B ∧ 0 ≤ q.2 ∧ q.2 < p) → (∀ q ∈ L, q.1.natAbs ≤ B) → ∀ q ∈ L.foldl (addF p c) acc, q.1.natAbs ≤ B ∧ 0 ≤ q.2 ∧ q.2 < p
  | [], _, h, _ => h
  | x :: L, acc, h, hL => by
    refine addFs_in hp B L (addF p c acc x) (fun q hq => ?_) fun q hq => hL q (List.mem_cons_of_mem _ hq)
    rcases mem_putI hq with h1 | h1
    · exact h q h1
    · rw [h1]
      exact ⟨hL x List.mem_cons_self, Int.emod_nonneg _ (by omega), Int.emod_lt_of_pos _ hp⟩
theorem addL_ok {p c : Int} (hp : 0 < p) {B : Nat} {L1 L2 : DI} (n1 : (L1.map (·.1)).Nodup) (h1 : ∀ q ∈ L1, q.1.natAbs ≤ B ∧ 0 ≤ q.2 ∧ q.2 < p) (h2 : ∀ q ∈ L2, q.1.natAbs ≤ B) : OkL p (addL p L1 L2 c) ∧ (∀ q ∈ addL p L1 L2 c, q.1.natAbs ≤ B) ∧ (addL p L1 L2 c).length ≤ L1.length + L2.length := by
  have hi := addFs_in (c := c) hp B L2 L1 h1 h2
  obtain ⟨a1, a2⟩ := addFs_ok (p := p) (c := c) L2 L1 n1
  exact ⟨nz_ok a1 fun q hq => (hi q hq).2, fun q hq => (hi q (List.mem_filter.mp hq).1).1, Nat.le_trans (List.length_filter_le _ _) a2⟩
theorem over_in {p : Int} (hp : 0 < p) {L : DI} {d : Int} (B : Nat) : ∀ (rs : List Int) (acc : DI), (acc.map (·.1)).Nodup → (∀ q ∈ acc, q.1.natAbs ≤ B ∧ 0 < q.2 ∧ q.2 < p) → (∀ r ∈ rs, r.natAbs ≤ B) → ((rs.foldl (overF p L d) acc).map (·.1)).Nodup ∧ (∀ q ∈ rs.foldl (overF p L d) acc, q.1.natAbs ≤ B ∧ 0 < q.2 ∧ q.2 < p) ∧ (rs.foldl (overF p L d) acc).length ≤ acc.length + rs.length
  | [], acc, hn, h, _ => ⟨hn, h, by simp⟩
  | r :: rs, acc, hn, h, hr => by
    obtain ⟨o1, o2⟩ := overF_ok (p := p) (L := L) (d := d) (r := r) hn
    obtain ⟨h1, h2, h3⟩ := over_in hp B rs (overF p L d acc r) o1 (fun q hq => by
      unfold overF at hq
      split at hq
      · exact h q hq
      · rename_i hz
        rcases mem_putI hq with h1 | h1
        · exact h q h1
        · rw [h1]
          have := Int.emod_nonneg (getI L r + getI acc (r - d)) (show p ≠ 0 by omega)
          exact ⟨hr r List.mem_cons_self, by show 0 < (getI L r + getI acc (r - d)) % p; omega, Int.emod_lt_of_pos _ hp⟩) fun x hx => hr x (List.mem_cons_of_mem _ hx)
    exact ⟨h1, h2, by simp at h3 ⊢; omega⟩
theorem rooms_in {lo hi d : Int} : ∀ r ∈ roomsL lo hi d, lo ≤ r ∧ r ≤ hi := by
  intro r hr
  unfold roomsL at hr
  split at hr
  · obtain ⟨i, hi, rfl⟩ := List.mem_map.mp hr
    have := List.mem_range.mp hi
    omega
  · obtain ⟨i, hi, rfl⟩ := List.mem_map.mp hr
    have := List.mem_range.mp hi
    omega
theorem mem_rooms {lo hi d r : Int} (h0 : lo ≤ r) (h1 : r ≤ hi) : r ∈ roomsL lo hi d := by
  unfold roomsL
  split
  · exact List.mem_map.mpr ⟨(r - lo).toNat, List.mem_range.mpr (by omega), by omega⟩
  · exact List.mem_map.mpr ⟨(hi - r).toNat, List.mem_range.mpr (by omega), by omega⟩
theorem bnd_lo {L : DI} {B : Nat} (h : ∀ q ∈ L, q.1.natAbs ≤ B) : (loK L).natAbs ≤ B ∧ (hiK L).natAbs ≤ B := by
  cases L with
  | nil => exact ⟨by show (0 : Int).natAbs ≤ B; simp, by show (0 : Int).natAbs ≤ B; simp⟩
  | cons q r =>
    have hm : ∀ y ∈ r.map (·.1), y.natAbs ≤ B := fun y hy => by
      obtain ⟨x, hx, rfl⟩ := List.mem_map.mp hy
      exact h x (List.mem_cons_of_mem _ hx)
    have hq := h q List.mem_cons_self
    obtain ⟨_, _, a3⟩ := lo_le (r.map (·.1)) q.1
    obtain ⟨_, _, b3⟩ := hi_ge (r.map (·.1)) q.1
    constructor
    · show ((r.map (·.1)).foldl min q.1).natAbs ≤ B
      rcases a3 with z | z
      · rw [z]; exact hq
      · exact hm _ z
    · show ((r.map (·.1)).foldl max q.1).natAbs ≤ B
      rcases b3 with z | z
      · rw [z]; exact hq
      · exact hm _ z
theorem overL_ok {p : Int} (hp : 0 < p) {L : DI} {d : Int} {B : Nat} (h : ∀ q ∈ L, q.1.natAbs ≤ B) : OkL p (overL p L d) ∧ (∀ q ∈ overL p L d, q.1.natAbs ≤ B) ∧ (overL p L d).length ≤ 2 * B + 1 := by
  obtain ⟨b1, b2⟩ := bnd_lo h
  unfold overL
  split
  · exact ⟨⟨.nil, by simp⟩, by simp, by simp⟩
  · have hlen := rooms_len (loK L) (hiK L) d
    obtain ⟨h1, h2, h3⟩ := over_in hp B (L := L) (d := d) (roomsL (loK L) (hiK L) d) [] .nil (by simp) fun r hr => by
      have := rooms_in r hr
      omega
    exact ⟨⟨h1, fun q hq => (h2 q hq).2⟩, fun q hq => (h2 q hq).1, by simp at h3; omega⟩
theorem divM_ok {p n : Int} (hp : 0 < p) {L : DI} (hL : OkL p L) (hd : divOk p L n = true) : OkL p (divM p L n) := by
  refine ⟨by rw [divM_keys]; exact hL.nd, fun q hq => ?_⟩
  obtain ⟨x, hx, rfl⟩ := List.mem_map.mp hq
  have vx := hL.v x hx
  have hg : x.2 % ((Nat.gcd n.natAbs p.natAbs : Nat) : Int) = 0 := of_decide_eq_true (List.all_eq_true.mp hd x hx)
  obtain ⟨r, hr⟩ := sols_ne (n := n) hp (by omega) vx.2 hg
  obtain ⟨s0, s1, s2⟩ := sols_mem (p := p) (n := n) (c := x.2) (s := solve p n x.2) (by rw [hr]; exact List.mem_cons_self)
  refine ⟨?_, s1⟩
  show 0 < solve p n x.2
  rcases Int.lt_or_eq_of_le s0 with h | h
  · exact h
  · exfalso
    rw [← h] at s2
    simp at s2
    omega
theorem divM_in {p n : Int} {L : DI} {B : Nat} (h : ∀ q ∈ L, q.1.natAbs ≤ B) : ∀ q ∈ divM p L n, q.1.natAbs ≤ B := fun q hq => by
  obtain ⟨x, hx, rfl⟩ := List.mem_map.mp hq
  exact h x hx
def partL (p : Int) (ls : List Int) (n : Int) : Option (List Int) :=
  if (walkW p ls).1 = 0 then (if divOk p (nz (walkW p ls).2) n = true then some (shortK p 0 (divM p (nz (walkW p ls).2) n)).ls else none)
  else if (walkW p ls).1 % n ≠ 0 then none
  else if foldV p ((walkW p ls).1.natAbs : Int) (addL p (nz (walkW p ls).2) (movL (nz (walkW p ls).2) ((walkW p ls).1 / n)) (-1)) = List.replicate (walkW p ls).1.natAbs 0 then
    some (shortK p ((walkW p ls).1 / n) (overL p (addL p (nz (walkW p ls).2) (movL (nz (walkW p ls).2) ((walkW p ls).1 / n)) (-1)) (walkW p ls).1)).ls
  else none
def partD : Option (List Int) → D
  | none => .non
  | some ls => .tup (ls.map D.int)
def okN : D → Bool
  | .int i => decide (1 ≤ i)
  | _ => false
def spPart (CN CL : Addr) : SpD := fun ds M k e => ∃ dp dr dn, ds = [dp, dr, dn] ∧ gd dp ∧ gd dr ∧ gd dn ∧ (okMod dp = false → e CN [("thing", dp)] M) ∧ (okMod dp = true → isLets dr = false → e CL [("thing", dr)] M) ∧ (okMod dp = true → isLets dr = true → okN dn = false → e CN [("thing", dn)] M) ∧
  ∀ i ls m, dp = .int i → dr = .tup (ls.map D.int) → dn = .int m → okMod dp = true → isLets dr = true → okN dn = true → ls.length ≤ 60 ∧ m < 2 ^ 62 ∧ k (partD (partL i ls m)) M
/-! ### == of data -/
mutual
/-- ints, bools, None, tuples and lists of these -/
def niD : D → Bool
  | .int _ => true
  | .non => true
  | .bl _ => true
  | .tup ds => nisD ds
  | .lst ds => nisD ds
  | _ => false
def nisD : List D → Bool
  | [] => true
  | d :: ds => niD d && nisD ds
end
mutual
theorem lay_of : ∀ d : D, niD d = true → okP d = true ∧ (toP d).canLay0 = true ∧ (toP d).depth = dp d
  | .int _, _ => ⟨rfl, rfl, rfl⟩
  | .non, _ => ⟨rfl, rfl, rfl⟩
  | .bl _, _ => ⟨rfl, rfl, rfl⟩
  | .tup ds, h => by
    simp only [niD] at h
    obtain ⟨h1, h2, h3⟩ := lays_of ds h
    exact ⟨h1, by simp only [toP, PyData.canLay0]; exact h2, by simp only [toP, PyData.depth, dp, h3]⟩
  | .lst ds, h => by
    simp only [niD] at h
    obtain ⟨h1, h2, h3⟩ := lays_of ds h
    exact ⟨h1, by simp only [toP, PyData.canLay0]; exact h2, by simp only [toP, PyData.depth, dp, h3]⟩
  | .str _, h => by simp [niD] at h
  | .dic _ _, h => by simp [niD] at h
  | .ref _, h => by simp [niD] at h
  | .ty _, h => by simp [niD] at h
theorem lays_of : ∀ ds : List D, nisD ds = true → okPs ds = true ∧ PyData.canLayAll0 (toPs ds) = true ∧ PyData.depthAll (toPs ds) = dps ds
  | [], _ => ⟨rfl, rfl, rfl⟩
  | d :: ds, h => by
    simp only [nisD, Bool.and_eq_true] at h
    obtain ⟨h1, h2, h3⟩ := lay_of d h.1
    obtain ⟨h4, h5, h6⟩ := lays_of ds h.2
    exact ⟨by simp only [okPs, h1, h4, Bool.and_self], by simp only [toPs, PyData.canLayAll0, h2, h5, Bool.and_self], by simp only [toPs, PyData.depthAll, dps, h3, h6]⟩
end
theorem shaped_of {d : D} (h : niD d = true) (hd : dp d ≤ 60) : okP d = true ∧ PySem.SeqAt.shaped (toP d) = true := by
  obtain ⟨h1, h2, h5⟩ := lay_of d h
  exact ⟨h1, by
    unfold PySem.SeqAt.shaped
    rw [h2, h5]
    simpa using (show dp d ≤ 64 by omega)⟩
theorem rd_eqSame {d : D} {M : Sto} {k : DKt} (h : niD d = true) (hd : dp d ≤ 60) (hk : k (.bl true) M) : rEqT d d M k := by
  obtain ⟨h1, h2⟩ := shaped_of h hd
  refine ⟨h1, h1, h2, h2, ?_⟩
  rw [PySem.SeqAt.eqv_refl _ (lay_of d h).2.1]; exact hk
theorem eqv_ints : ∀ xs ys : List Int, PyData.eqvAll (toPs (xs.map D.int)) (toPs (ys.map D.int)) = decide (xs = ys)
  | [], [] => by simp [toPs, PyData.eqvAll]
  | [], _ :: _ => by simp [toPs, PyData.eqvAll]
  | _ :: _, [] => by simp [toPs, PyData.eqvAll]
  | x :: xs, y :: ys => by
    have ih := eqv_ints xs ys
    simp only [List.map_cons, toPs, toP, PyData.eqvAll, PyData.eqv, ih]
    by_cases h1 : x = y <;> by_cases h2 : xs = ys <;> simp [h1, h2]
theorem okPs_ints : ∀ xs : List Int, okPs (xs.map D.int) = true ∧ PyData.canLayAll0 (toPs (xs.map D.int)) = true ∧ PyData.depthAll (toPs (xs.map D.int)) = 0
  | [] => ⟨rfl, rfl, rfl⟩
  | x :: xs => by
    obtain ⟨h1, h2, h3⟩ := okPs_ints xs
    refine ⟨?_, ?_, ?_⟩
    · show (okP (.int x) && okPs (xs.map D.int)) = true
      rw [h1]; rfl
    · simp only [List.map_cons, toPs, PyData.canLayAll0, h2]; rfl
    · simp only [List.map_cons, toPs, PyData.depthAll, h3]; rfl
theorem sh_ints (xs : List Int) : okP (.tup (xs.map D.int)) = true ∧ PySem.SeqAt.shaped (toP (.tup (xs.map D.int))) = true := by
  obtain ⟨h1, h2, h3⟩ := okPs_ints xs
  refine ⟨h1, ?_⟩
  unfold PySem.SeqAt.shaped
  simp only [toP, PyData.canLay0, PyData.depth, h2, h3]
  decide
theorem rd_eqInts {xs ys : List Int} {M : Sto} {k : DKt} (hk : k (.bl (decide (xs = ys))) M) : rEqT (.tup (xs.map D.int)) (.tup (ys.map D.int)) M k := by
  obtain ⟨h1, h2⟩ := sh_ints xs
  obtain ⟨h3, h4⟩ := sh_ints ys
  refine ⟨h1, h3, h2, h4, ?_⟩
  have e : PyData.eqv (toP (.tup (xs.map D.int))) (toP (.tup (ys.map D.int))) = decide (xs = ys) := by
    simp only [toP, PyData.eqv, eqv_ints]
  rw [e]; exact hk
theorem rd_neInts {xs ys : List Int} {M : Sto} {k : DKt} (hk : k (.bl (!decide (xs = ys))) M) : rNeT (.tup (xs.map D.int)) (.tup (ys.map D.int)) M k := by
  obtain ⟨h1, h2⟩ := sh_ints xs
  obtain ⟨h3, h4⟩ := sh_ints ys
  refine ⟨h1, h3, h2, h4, ?_⟩
  have e : PyData.eqv (toP (.tup (xs.map D.int))) (toP (.tup (ys.map D.int))) = decide (xs = ys) := by
    simp only [toP, PyData.eqv, eqv_ints]
  rw [e]; exact hk
theorem rd_absI {te : TED} {δ : Sl} {M : Sto} (a : Int) (h : ∀ k : DKt, k (.int a) M → te δ M k) (k : DKt) (hk : k (.int (a.natAbs : Int)) M) : dCB rAbs (dCons te dNil) δ M k := h _ (by
  show k (.int (if a < 0 then -a else a)) M
  have e : (if a < 0 then -a else a) = (a.natAbs : Int) := by split <;> omega
  rw [e]; exact hk)
section
variable {P : Program} {w : World} {K : PySem.W.Frag} {mg : Str → Option Value} {base : Heap} {W : Wd}
theorem ok_lamp_part {CN CL : Addr} (Df : DefAt K mg "lamp_part" s_lamp_part ["p", "row", "n"]) (g : Gb K mg) (hW : W.K = K) (c_need_standings : CalDX P w K mg base W 4 "need_standings" ["thing"] (spNeedSt CN)) (c_need_letters : CalDX P w K mg base W 4 "need_letters" ["thing"] (spNeedLets CL)) (c_is_whole : CalD P w K mg base W 1 "is_whole" ["thing"] spIsWhole) (x_BadNumber : MkX P w K mg base 1 "BadNumber" CN "thing")
    (c_walked_lamps : CalD P w K mg base W 1 "walked_lamps" ["p", "row"] spWalked) (c_divided_lamps : CalD P w K mg base W 1 "divided_lamps" ["p", "lamps", "n"] spDiv) (c_shortest_letters : CalD P w K mg base W 2 "shortest_letters" ["p", "end", "lamps"] spShort)
    (c_lamps_added : CalD P w K mg base W 1 "lamps_added" ["p", "one", "other", "number"] spAdded) (c_lamps_moved : CalD P w K mg base W 1 "lamps_moved" ["lamps", "by"] spMoved) (c_fold_of : CalD P w K mg base W 1 "fold_of" ["p", "size", "lamps"] spFold) (c_lamps_over : CalD P w K mg base W 1 "lamps_over" ["p", "lamps", "d"] spOver) : FnAllX P w K mg base W 5 "lamp_part" s_lamp_part ["p", "row", "n"] (spPart CN CL) :=
  okAX sc_lamp_part (fun ds M k e ⟨_, _, _, h, _⟩ => by rw [h]; rfl) fun f cdv A outer s H E F0 ds M kk e hr hR ⟨dp, dr, dn, hd, gp, gr, gn, h1, h2, h3, h4⟩ => by
    subst hd
    refine ⟨_, (psd_cons (psd_expr (pd_calX hR c_need_standings (hr.mono (by decide)) (pda_cons (pd_var 0) pda_nil))) (psd_cons (psd_expr (pd_calX hR c_need_letters (hr.mono (by decide)) (pda_cons (pd_var 1) pda_nil))) (psd_cons (psd_if (ptd_or (ptd_not (ptd_val (pd_cal c_is_whole (hr.mono (by decide)) (pda_cons (pd_var 2) pda_nil)))) (pwd_or1 (ptd_cmp od_lt (pd_var 2) pd_int (nomark _)))) (psd_one (psd_raiseC rfl hR x_BadNumber (hr.mono (by decide)) (pd_var 2))) psd_nil) (psd_cons (psd_asg (pd_cal c_walked_lamps (hr.mono (by decide)) (pda_cons (pd_var 0) (pda_cons (pd_var 1) pda_nil))) (pgd_tup rfl (pgsd_cons (pgd_name 5 sc_lamp_part.nd) (pgsd_cons (pgd_name 6 sc_lamp_part.nd) pgsd_nil)))) (psd_cons (psd_frz 6 (psd_if (ptd_cmp (od_eq hr.units0) (pd_var 5) pd_int (nomark _)) (psd_cons (psd_set 7 sc_lamp_part.nd (pd_cal c_divided_lamps (hr.mono (by decide)) (pda_cons (pd_var 0) (pda_cons (pd_var 6) (pda_cons (pd_var 2) pda_nil))))) (psd_one (psd_ret (pd_ifExp (ptd_cmp od_isN (pd_var 7) pd_non (nomark _)) pd_non (pd_cal c_shortest_letters (hr.mono (by decide)) (pda_cons (pd_var 0) (pda_cons pd_int (pda_cons (pd_var 7) pda_nil)))))))) psd_nil)) (psd_cons (psd_if (ptd_cmp (od_ne hr.units0) (pd_op od_mod (pd_var 5) (pd_var 2)) pd_int (nomark _)) (psd_one (psd_ret pd_non)) psd_nil) (psd_cons (psd_set 3 sc_lamp_part.nd (pd_op od_div (pd_var 5) (pd_var 2))) (psd_cons (psd_set 4 sc_lamp_part.nd (pd_cal c_lamps_added (hr.mono (by decide)) (pda_cons (pd_var 0) (pda_cons (pd_var 6) (pda_cons (pd_cal c_lamps_moved (hr.mono (by decide)) (pda_cons (pd_var 6) (pda_cons (pd_var 3) pda_nil))) (pda_cons (pd_un ud_neg pd_int) pda_nil)))))) (psd_cons (psd_if (ptd_cmp (od_neT hr.units) (pd_cal c_fold_of (hr.mono (by decide)) (pda_cons (pd_var 0) (pda_cons (pd_callB cd_abs rfl g.abs_ PyProof.Rows.Boot.«abs» (pda_cons (pd_var 5) pda_nil)) (pda_cons (pd_var 4) pda_nil)))) (pd_op od_mul (pd_tup (pda_cons pd_int pda_nil)) (pd_callB cd_abs rfl g.abs_ PyProof.Rows.Boot.«abs» (pda_cons (pd_var 5) pda_nil))) (nomark _)) (psd_one (psd_ret pd_non)) psd_nil) (psd_one (psd_ret (pd_cal c_shortest_letters (hr.mono (by decide)) (pda_cons (pd_var 0) (pda_cons (pd_var 3) (pda_cons (pd_cal c_lamps_over (hr.mono (by decide)) (pda_cons (pd_var 0) (pda_cons (pd_var 4) (pda_cons (pd_var 5) pda_nil)))) pda_nil))))))))))))))), ?_⟩
    refine ⟨dp, rfl, gp, fun hm => ?_, h1⟩
    refine ⟨dr, rfl, gr, fun hl => ?_, fun hl => h2 hm hl⟩
    dsimp only
    refine rd_cut (!okN dn) (fun k hk => ?_) (fun hb => ?_) fun hb => ?_
    · have e1 : (!okN dn) = ((!isInt dn) || !okN dn) := by cases dn <;> rfl
      rw [e1] at hk
      refine rd_or _ _ (fun k hk => rd_not (isInt dn) (fun k hk => ⟨dn, rfl, gn, hk⟩) k hk) (fun hi k hk => ?_) k hk
      cases dn with
      | int m =>
        have e2 : (!okN (.int m)) = decide (m < 1) := by
          show (!decide (1 ≤ m)) = decide (m < 1)
          by_cases h : 1 ≤ m <;> simp [h] <;> omega
        rw [e2] at hk
        exact hk
      | _ => cases hi
    · exact h3 hm hl (by simpa using hb)
    have hn : okN dn = true := by simpa using hb
    obtain ⟨i, rfl, hi2, hi3⟩ := okMod_int hm
    obtain ⟨ls, rfl⟩ := isLets_ints hl
    obtain ⟨m, rfl⟩ : ∃ m, dn = .int m := by cases dn <;> first | exact ⟨_, rfl⟩ | cases hn
    have hm1 : 1 ≤ m := of_decide_eq_true hn
    obtain ⟨h60, h62, hk⟩ := h4 i ls m rfl rfl rfl hm hl hn
    have hltr := lets_ltr hl
    obtain ⟨w1, w2⟩ := walk_small (p := i) (by omega) hltr
    have hnd := (walk_ok i ls).1
    have okL : OkL i (nz (walkW i ls).2) := nz_ok hnd fun q hq => (w2 q hq).2
    have inL : ∀ q ∈ nz (walkW i ls).2, q.1.natAbs ≤ 60 := fun q hq => by
      have := (w2 q (List.mem_filter.mp hq).1).1
      omega
    have lenL : (nz (walkW i ls).2).length ≤ 60 := Nat.le_trans (List.length_filter_le _ _) (Nat.le_trans (walk_ok i ls).2 h60)
    have hpart : partL i ls m = partL i ls m := rfl
    unfold partL at hk
    refine ⟨i, ls, rfl, by omega, by omega, fun a ha => ⟨rfl, rd_tgt2 ?_⟩⟩
    dsimp only
    have he60 : (walkW i ls).1.natAbs ≤ 60 := by omega
    generalize nz (walkW i ls).2 = L at hk okL inL lenL
    generalize (walkW i ls).1 = e0 at hk he60
    refine rd_frz (L := L) rfl updM_same ?_
    rw [updM_del ha]
    refine rd_if0 (decide (e0 = 0)) (fun k hk => hk) (fun hb => ?_) fun hb => ?_
    · rw [if_pos (of_decide_eq_true hb)] at hk
      refine rd_seqx (x := divD i L m) (fun k hk => rd_call k (fun k hk => hk) ⟨i, L, m, rfl, okL, by omega, hi3, by omega, by omega, h62, hk⟩) ?_
      by_cases hd : divOk i L m = true
      · rw [if_pos hd] at hk
        rw [show divD i L m = dicI (divM i L m) from if_pos hd]
        refine rd_ret (rd_ifE false (fun k hk => hk) (fun h => by cases h) fun _ => ?_)
        exact ⟨i, 0, divM i L m, rfl, divM_ok (by omega) okL hd, by omega, hi3, by unfold divM; rw [List.length_map]; omega, fun q hq => by have := divM_in inL q hq; omega, by decide, hk⟩
      · rw [if_neg hd] at hk
        rw [show divD i L m = .non from if_neg hd]
        exact rd_ret (rd_ifE true (fun k hk => hk) (fun _ => hk) fun h => by cases h)
    · have he : ¬ e0 = 0 := of_decide_eq_false hb
      rw [if_neg he] at hk
      dsimp only
      refine rd_cut (!decide (e0 % m = 0)) (fun k hk => rd_op (x := .int (e0 % m)) (y := .int 0) _ (fun k hk => rd_modI e0 m (fun k hk => hk) (fun k hk => hk) (by omega) k hk) (fun k hk => hk) hk) (fun hb => ?_) fun hb => ?_
      · rw [if_pos (by simpa using hb)] at hk
        exact hk
      · have hdv : e0 % m = 0 := by simpa using hb
        rw [if_neg (fun z => z hdv)] at hk
        have hlog : m.natAbs.log2 < 64 := Nat.log2_lt (by omega) |>.mpr (by omega)
        refine rd_seqx (x := .int (e0 / m)) (fun k hk => rd_divI e0 m (fun k hk => hk) (fun k hk => hk) ⟨by omega, by omega⟩ k hk) ?_
        have hby : (e0 / m).natAbs ≤ 60 := by
          have h1 : (e0 / m).natAbs ≤ e0.natAbs := by
            have hx : e0 = m * (e0 / m) := by have := Int.emod_add_mul_ediv e0 m; omega
            have hy := congrArg Int.natAbs hx
            rw [Int.natAbs_mul] at hy
            have : 1 ≤ m.natAbs := by omega
            have := Nat.le_mul_of_pos_left (e0 / m).natAbs this
            omega
          omega
        have inM : ∀ q ∈ movL L (e0 / m), q.1.natAbs ≤ 120 := fun q hq => by
          obtain ⟨x, hx, rfl⟩ := List.mem_map.mp hq
          have := inL x hx
          show (x.1 + e0 / m).natAbs ≤ 120
          omega
        have lenM : (movL L (e0 / m)).length = L.length := by unfold movL; simp
        obtain ⟨okA, inA, lenA⟩ := addL_ok (c := -1) (p := i) (by omega) (B := 120) okL.nd (fun q hq => ⟨by have := inL q hq; omega, by have := okL.v q hq; omega, (okL.v q hq).2⟩) inM
        refine rd_seqx (x := dicI (addL i L (movL L (e0 / m)) (-1))) (fun k hk => rd_call k (fun k hk => rd_acons (.int i) [dicI L, dicI (movL L (e0 / m)), .int (-1)] (fun k hk => hk) (fun k hk => rd_acons (dicI L) [dicI (movL L (e0 / m)), .int (-1)] (fun k hk => hk) (fun k hk => rd_acons (dicI (movL L (e0 / m))) [.int (-1)] (fun k hk => rd_call k (fun k hk => hk) ⟨L, e0 / m, rfl, okL.nd, by omega, hk⟩) (fun k hk => hk) k hk) k hk) k hk) ⟨i, L, movL L (e0 / m), -1, rfl, by omega, okL.nd, mov_nodup okL.nd, by omega, by omega, .inr rfl, hk⟩) ?_
        generalize addL i L (movL L (e0 / m)) (-1) = A at hk okA inA lenA
        refine rd_cut (!decide (foldV i (e0.natAbs : Int) A = List.replicate e0.natAbs 0)) (fun k hk => ?_) (fun hb => ?_) fun hb => ?_
        · refine rd_op (x := .tup ((foldV i (e0.natAbs : Int) A).map D.int)) (y := .tup ((List.replicate e0.natAbs 0).map D.int)) _ (fun k hk => ?_) (fun k hk => ?_) (rd_neInts hk)
          · exact rd_call k (fun k hk => rd_acons (.int i) [.int (e0.natAbs : Int), dicI A] (fun k hk => hk) (fun k hk => rd_acons (.int (e0.natAbs : Int)) [dicI A] (fun k hk => rd_absI e0 (fun k hk => hk) k hk) (fun k hk => hk) k hk) k hk) ⟨i, (e0.natAbs : Int), A, rfl, by omega, by omega, by omega, okA.nd, hk⟩
          · refine rd_op (x := .tup [.int 0]) (y := .int (e0.natAbs : Int)) _ (fun k hk => ⟨by rw [sizeLine_eq]; simp, hk⟩) (fun k hk => rd_absI e0 (fun k hk => hk) k hk) ?_
            refine ⟨by omega, by omega, by simp, ?_⟩
            rw [rep_ints]; exact hk
        · rw [if_neg (by simpa using hb)] at hk
          exact hk
        · rw [if_pos (by simpa using hb)] at hk
          obtain ⟨okO, inO, lenO⟩ := overL_ok (p := i) (by omega) (d := e0) (B := 120) inA
          obtain ⟨bl, bh⟩ := bnd_lo inA
          refine rd_ret (rd_call _ (fun k hk => rd_acons (.int i) [.int (e0 / m), dicI (overL i A e0)] (fun k hk => hk) (fun k hk => rd_acons (.int (e0 / m)) [dicI (overL i A e0)] (fun k hk => hk) (fun k hk => rd_acons (dicI (overL i A e0)) [] (fun k hk => rd_call k (fun k hk => hk) ⟨i, A, e0, rfl, by omega, by omega, by omega, by omega, hk⟩) (fun k hk => hk) k hk) k hk) k hk) ⟨i, e0 / m, overL i A e0, rfl, okO, by omega, hi3, by omega, fun q hq => by have := inO q hq; omega, by omega, hk⟩)
end
end Kx
set_option maxHeartbeats 2000000
namespace Kx
open PySem PySem.Spec L2 DL
/-! ### the law's own functions -/
def cmS (s : Int × Int) : Int × Int := if s.2 = 0 then s else (s.2, s.1 % s.2)
def cmN : Nat → Int × Int → Int × Int
  | 0, s => s
  | n + 1, s => cmN n (cmS s)
def commL (n p : Int) : Int := (cmN 60 (n, p)).1
def spCommon : SpD := fun ds M k _ => ∃ n p, ds = [.int n, .int p] ∧ 0 ≤ n ∧ 0 ≤ p ∧ k (.int (commL n p)) M
def pairD (q : Int × Int) : D := .tup [.int q.1, .int q.2]
def formD (e : Int) (F : DI) : D := .tup [.int e, .tup (F.map pairD)]
def csL (P : Int → Bool) (L : DI) : Int := ((L.filter fun q => P q.1).map (·.2)).sum
def lfold (p : Int) (m : Nat) (F : DI) : List Int := (List.range m).map fun (j : Nat) => csL (fun r => decide (r % (m : Int) = (j : Int))) F % p
def spLFold : SpD := fun ds M k _ => ∃ p e F, ds = [.int p, formD e F] ∧ 0 < p ∧ 1 ≤ e.natAbs ∧ e.natAbs ≤ 1000 ∧ F.length ≤ 100000 ∧ k (.tup ((lfold p e.natAbs F).map D.int)) M
def hasL (p e : Int) (F : DI) (n : Int) : Bool := if e = 0 then F.all (fun q => decide (q.2 % commL n p = 0)) else if e % n ≠ 0 then false else decide (lfold p e.natAbs F = (lfold p e.natAbs F).drop (e.natAbs / n.toNat) ++ (lfold p e.natAbs F).take (e.natAbs / n.toNat))
def spHas : SpD := fun ds M k _ => ∃ p e F n, ds = [.int p, formD e F, .int n] ∧ 0 < p ∧ e.natAbs ≤ 1000 ∧ F.length ≤ 100000 ∧ 1 ≤ n ∧ n < 2 ^ 62 ∧ 0 < commL n p ∧ k (.bl (hasL p e F n)) M
def tmF (p e t : Int) (acc : DI) (q : Int × Int) : DI := putI acc (q.1 + t * e) ((getI acc (q.1 + t * e) + q.2) % p)
def tmL (p e : Int) (F : DI) (n : Nat) : DI := (List.range n).foldl (fun acc (t : Nat) => F.foldl (tmF p e t) acc) []
def timesD (p e : Int) (F : DI) (n : Int) : D := if e = 0 then formD 0 ((F.map fun q => (q.1, (q.2 * n) % p)).filter fun q => decide (q.2 ≠ 0)) else .tup [.int (n * e), formL (tmL p e F n.toNat)]
def spTimes : SpD := fun ds M k _ => ∃ p e F n, ds = [.int p, formD e F, .int n] ∧ 0 < p ∧ F.length ≤ 1000 ∧ (∀ q ∈ F, 0 ≤ q.2 ∧ q.2 < 1000) ∧ 1 ≤ n ∧ n < 2 ^ 62 ∧ (e = 0 ∨ (n ≤ 1000 ∧ e.natAbs ≤ 1000)) ∧ k (timesD p e F n) M
def spIsPart : SpD := fun ds M k _ => ∃ p e F n e' F', ds = [.int p, formD e F, .int n, formD e' F'] ∧ 0 < p ∧ F'.length ≤ 1000 ∧ (∀ q ∈ F', 0 ≤ q.2 ∧ q.2 < 1000) ∧ 1 ≤ n ∧ n < 2 ^ 62 ∧ (e' = 0 ∨ (n ≤ 1000 ∧ e'.natAbs ≤ 1000)) ∧ e' * n = e ∧ timesD p e' F' n = formD e F ∧ k (.bl true) M
theorem rd_sumL {te : TED} {δ : Sl} {M : Sto} (xs : List Int) (h : ∀ k : DKt, k (.lst (xs.map D.int)) M → te δ M k) (k : DKt) (hk : k (.int xs.sum) M) : dCB rSumD (dCons te dNil) δ M k := h _ (by
  show (match intsOf (xs.map D.int) with | some bs => k (.int bs.sum) M | none => False)
  rw [intsOf_ints]; exact hk)
theorem fm_cs (m i : Int) : ∀ F : DI, (F.map pairD).filterMap (fun d => match d with | .tup [.int a, .int b] => (if a % m = i then some (D.int b) else none) | _ => none) = ((F.filter fun q => decide (q.1 % m = i)).map (·.2)).map D.int
  | [] => rfl
  | q :: F => by
    have ih := fm_cs m i F
    rw [List.map_cons, List.filter_cons]
    by_cases h : q.1 % m = i
    · rw [List.filterMap_cons_some (b := D.int q.2) (by show (if q.1 % m = i then some (D.int q.2) else none) = _; rw [if_pos h]), ih]
      simp [h]
    · rw [List.filterMap_cons_none (by show (if q.1 % m = i then some (D.int q.2) else none) = _; rw [if_neg h]), ih]
      simp [h]
theorem fm_nz : ∀ R : DI, (R.map pairD).filterMap (fun d => match d with | .tup [.int a, .int b] => (if b = 0 then none else some (D.tup [.int a, .int b])) | _ => none) = (R.filter fun q => decide (q.2 ≠ 0)).map pairD
  | [] => rfl
  | q :: R => by
    have ih := fm_nz R
    rw [List.map_cons, List.filter_cons]
    by_cases h : q.2 = 0
    · rw [List.filterMap_cons_none (by show (if q.2 = 0 then none else some (pairD q)) = _; rw [if_pos h]), ih]
      simp [h]
    · rw [List.filterMap_cons_some (b := pairD q) (by show (if q.2 = 0 then none else some (pairD q)) = _; rw [if_neg h]), ih]
      simp [h]
theorem rd_asg2 {ta tb : TED} {i j n : Nat} {u : TSD} {d : EndD} {δ : Sl} {M : Sto} {x y : D} (h1 : ∀ k : DKt, k x M → ta δ M k) (h2 : ∀ k : DKt, k y M → tb δ M k) (hn2 : 2 = n) (hn : u d ((δ.set i (some x)).set j (some y)) M) : dSeq (dAsg (dTup (dCons ta (dCons tb dNil))) (gTpD n (gCnD (gNm i) (gCnD (gNm j) gNlD)))) u d δ M := h1 _ (h2 _ ⟨by rw [sizeLine_eq]; simp, hn2, hn⟩)
theorem rd_sform {i j : Nat} {vs : List Nat} {δ : Sl} {M : Sto} {L : DI} {a : Addr} (hi : ∀ (Mx : Sto) (k : DKt), k (.ref a) Mx → dVar i δ Mx k) (hi2 : ∀ (Mx : Sto) (r : Int) (k : DKt), k (.ref a) Mx → dVar i ((wipeD δ vs).set j (some (.int r))) Mx k) (hj : ∀ (Mx : Sto) (r : Int) (k : DKt), k (.int r) Mx → dVar j ((wipeD δ vs).set j (some (.int r))) Mx k)
    (hM : M a = some (.dic (kvsOf L))) (hn : (L.map (·.1)).Nodup) (hl : L.length ≤ sizeLine) (k : DKt) (hk : k (formL L) M) : dCB rTupleOf (dCons (dLc (dItL (dCB rSortedA (dCons (dVar i) dNil))) (gNm j) (dTst (dOp rNee (dDGet (dVar i) (dVar j)) (dC (.int 0)))) (dTup (dCons (dVar j) (dCons (dDGet (dVar i) (dVar j)) dNil))) vs) dNil) δ M k := by
  refine rd_cb1 k (fun k hk => rd_lcf (fun d => match d with | .int r => (if getI L r = 0 then none else some (D.tup [.int r, .int (getI L r)])) | _ => none) (fun k hk => rd_itL (fun k hk => rd_cb1 k (fun k hk => hi M k hk) (rd_sortedA (k := k) hM hn hl hk)) k hk) ?_ (fun d hd Mx sM kx hx => ?_) k hk) ?_
  · have := sortU_len (L.map (·.1))
    rw [List.length_map] at this ⊢; omega
  · obtain ⟨r, hr', rfl⟩ := List.mem_map.mp hd
    have hr2 : r ∈ L.map (·.1) := mem_sortU.mp hr'
    have e := sM a _ hM
    have e2 : dicOf Mx (.ref a) = some (kvsOf L) := by unfold dicOf; simp only [e]
    have hx : kx (if getI L r = 0 then none else some (D.tup [.int r, .int (getI L r)])) Mx := hx
    have get : ∀ k : DKt, k (.int (getI L r)) Mx → dDGet (dVar i) (dVar j) ((wipeD δ vs).set j (some (.int r))) Mx k := fun k hk => rd_dgetI e2 (hi2 Mx r) (hj Mx r) hr2 k hk
    refine el_if (!decide (getI L r = 0)) (fun k hk => get _ hk) (fun hb => ?_) fun hb => ?_
    · rw [if_neg (by simpa using hb)] at hx
      exact rd_tup2 (x := .int r) (y := .int (getI L r)) (hj Mx r) get _ hx
    · rw [if_pos (by simpa using hb)] at hx
      exact hx
  · show k (.tup _) _
    rw [List.filterMap_map]
    exact hk
theorem ni_pairs : ∀ F : DI, nisD (F.map pairD) = true ∧ dps (F.map pairD) ≤ 1
  | [] => ⟨rfl, by decide⟩
  | q :: F => by
    obtain ⟨h1, h2⟩ := ni_pairs F
    refine ⟨?_, ?_⟩
    · show (niD (pairD q) && nisD (F.map pairD)) = true
      rw [h1]; rfl
    · show max (dp (pairD q)) (dps (F.map pairD)) ≤ 1
      have : dp (pairD q) = 1 := rfl
      omega
theorem ni_form (e : Int) (F : DI) : niD (formD e F) = true ∧ dp (formD e F) ≤ 60 := by
  obtain ⟨h1, h2⟩ := ni_pairs F
  refine ⟨?_, ?_⟩
  · show (niD (.int e) && (niD (.tup (F.map pairD)) && true)) = true
    simp only [niD, h1]; rfl
  · show max (dp (.int e)) (max (dp (.tup (F.map pairD))) 0) + 1 ≤ 60
    have : dp (.tup (F.map pairD)) = dps (F.map pairD) + 1 := rfl
    have : dp (.int e) = 0 := rfl
    omega
theorem tmF_ok {p e t : Int} : ∀ (F acc : DI), (acc.map (·.1)).Nodup → ((F.foldl (tmF p e t) acc).map (·.1)).Nodup ∧ (F.foldl (tmF p e t) acc).length ≤ acc.length + F.length
  | [], acc, h => ⟨h, by simp⟩
  | q :: F, acc, h => by
    obtain ⟨h3, h4⟩ := tmF_ok (p := p) (e := e) (t := t) F (tmF p e t acc q) (nodup_put h)
    have := len_put acc (q.1 + t * e) ((getI acc (q.1 + t * e) + q.2) % p)
    exact ⟨h3, by unfold tmF at h4; simp at h4 ⊢; unfold tmF; omega⟩
section
variable {P : Program} {w : World} {K : PySem.W.Frag} {mg : Str → Option Value} {base : Heap} {W : Wd}
theorem ok_law_common (Df : DefAt K mg "_law_common" s_law_common ["n", "p"]) (g : Gb K mg) (hW : W.K = K) : CalD P w K mg base W 1 "_law_common" ["n", "p"] spCommon :=
  okC Df sc_law_common (fun ds M k e ⟨_, _, h, _⟩ => by rw [h]; rfl) fun f cdv A outer s H E F0 ds M kk e hr ⟨n, p, hd, hn, hp, hk⟩ => by
    subst hd
    refine ⟨_, (psd_cons (psd_for PassesOwn.never rfl (pid_range1 g.range_ (pda_cons pd_int pda_nil)) (pgd_name 2 sc_law_common.nd) (psd_one (psd_if (ptd_cmp (od_ne hr.units0) (pd_var 1) pd_int (nomark _)) (psd_one (psd_par 0 1 rfl sc_law_common.nd (pda_cons (pd_var 1) (pda_cons (pd_op od_mod (pd_callTy cd_int rfl g.int_ PyProof.Rows.Boot.«int» (pda_cons (pd_var 0) pda_nil)) (pd_var 1)) pda_nil)))) psd_nil))) (psd_one (psd_ret (pd_var 0)))), ?_⟩
    refine rd_for (ds := (List.range 60).map fun (i : Nat) => D.int (i : Int)) (M1 := M) (fun r δ M' => M' = M ∧ ∃ (s : Int × Int) (y : Option D), δ = [some (.int s.1), some (.int s.2), y] ∧ cmN r.length s = cmN 60 (n, p) ∧ 0 ≤ s.1 ∧ 0 ≤ s.2) (fun k hk => ⟨by decide, by decide, hk⟩) ⟨rfl, (n, p), none, rfl, by simp, hn, hp⟩ ?_ ?_
    · rintro x r δ M' K' ⟨rfl, s, y, rfl, hf, h1, h2⟩ hK
      have hf : cmN r.length (cmS s) = cmN 60 (n, p) := hf
      refine rd_if0 (!decide (s.2 = 0)) (fun k hk => hk) (fun hb => ?_) fun hb => ?_
      · have hz : ¬ s.2 = 0 := by simpa using hb
        have es : cmS s = (s.2, s.1 % s.2) := if_neg hz
        have := Int.emod_nonneg s.1 hz
        exact ⟨by omega, hK _ _ ⟨rfl, cmS s, some x, by rw [es]; rfl, hf, by rw [es]; exact h2, by rw [es]; exact this⟩⟩
      · have hz : s.2 = 0 := by simpa using hb
        have es : cmS s = s := if_pos hz
        exact hK _ _ ⟨rfl, s, some x, rfl, by rw [← hf, es], h1, h2⟩
    · rintro δ M' ⟨rfl, s, y, rfl, hf, h1, h2⟩
      have hf : s = cmN 60 (n, p) := hf
      rw [show commL n p = s.1 by rw [hf]; rfl] at hk
      exact hk
theorem ok_law_fold (Df : DefAt K mg "_law_fold" s_law_fold ["p", "form"]) (g : Gb K mg) (hW : W.K = K) : CalD P w K mg base W 1 "_law_fold" ["p", "form"] spLFold :=
  okC Df sc_law_fold (fun ds M k e ⟨_, _, _, h, _⟩ => by rw [h]; rfl) fun f cdv A outer s H E F0 ds M kk e hr ⟨p, e0, F, hd, hp, e1, e2, hl, hk⟩ => by
    subst hd
    refine ⟨_, (psd_cons (psd_set 2 sc_law_fold.nd (pd_callB cd_abs rfl g.abs_ PyProof.Rows.Boot.«abs» (pda_cons (pd_ix (pd_var 1) pd_int) pda_nil))) (psd_one (psd_ret (pd_callTy cd_tuple rfl g.tuple_ PyProof.Rows.Boot.«tuple» (pda_cons (pd_lc (own := [("j", 3)]) rfl sc_law_fold.nd (pid_range1 g.range_ (pda_cons (pd_var 2) pda_nil)) (blkOk_by (by first | kernel_rfl | rfl)) (sim_name (i := 3) (by decide)) (fun _ _ _ _ _ => pg_name (i := 3) sc_law_fold.nd rfl (by first | exact Or.inl rfl | exact Or.inr rfl)) (fun _ _ _ _ _ => ptsd_nil) (fun _ _ _ _ _ => (pd_op od_mod (pd_callTy cd_int rfl g.int_ PyProof.Rows.Boot.«int» (pda_cons (pd_callB (cd_sum rfl) rfl g.sum_ PyProof.Rows.Boot.«sum» (pda_cons (pd_lc (own := [("room", 4), ("standing", 5)]) rfl sc_law_fold.nd (pid_tup hW.symm (pd_ix (pd_var 1) pd_int)) (blkOk_by (by first | kernel_rfl | rfl)) (sim_tup (n := 2) (sims_cons (sim_name (i := 4) (by decide)) (sims_cons (sim_name (i := 5) (by decide)) sims_nil))) (fun _ _ _ _ _ => hW ▸ pg_tup rfl (pgs_cons (pg_name (i := 4) sc_law_fold.nd rfl (by first | exact Or.inl rfl | exact Or.inr rfl)) (pgs_cons (pg_name (i := 5) sc_law_fold.nd rfl (by first | exact Or.inl rfl | exact Or.inr rfl)) pgs_nil))) (fun _ _ _ _ _ => ptsd_one (ptd_cmp (od_eq hr.units0) (pd_op od_mod (pd_callTy cd_int rfl g.int_ PyProof.Rows.Boot.«int» (pda_cons (pd_var 4) pda_nil)) (pd_var 2)) (pd_var 3) (nomark _))) (fun _ _ _ _ _ => (pd_var 5))) pda_nil)) pda_nil)) (pd_var 0)))) pda_nil))))), ?_⟩
    refine rd_seqx (x := .int (e0.natAbs : Int)) (fun k hk => rd_absI e0 (fun k hk => hk) k hk) ?_
    refine rd_ret (rd_cb1 _ (fun k hk => rd_lcm (ds := (List.range e0.natAbs).map fun (i : Nat) => D.int (i : Int)) (fun d => match d with | .int j => .int (csL (fun r => decide (r % (e0.natAbs : Int) = j)) F % p) | d => d) (fun k hk => ⟨by omega, by omega, hk⟩) (by rw [sizeLine_eq]; simp; omega) (fun d hd Mx sM kx hx => ?_) k hk) ?_)
    · obtain ⟨i, hi, rfl⟩ := List.mem_map.mp hd
      have hx : kx (some (.int (csL (fun r => decide (r % (e0.natAbs : Int) = (i : Int))) F % p))) Mx := hx
      refine el_yes (rd_modI _ p (fun k hk => rd_intI _ (fun k hk => rd_sumL ((F.filter fun q => decide (q.1 % (e0.natAbs : Int) = (i : Int))).map (·.2)) (fun k hk => ?_) k hk) k hk) (fun k hk => hk) hp _ hx)
      refine rd_lcf (ds := F.map pairD) (fun d => match d with | .tup [.int a, .int b] => (if a % (e0.natAbs : Int) = (i : Int) then some (.int b) else none) | _ => none) (fun k hk => rd_itT (fun k hk => hk) k hk) (by rw [sizeLine_eq]; simp; omega) (fun d hd Mx sM kx hx => ?_) k ?_
      · obtain ⟨q, hq, rfl⟩ := List.mem_map.mp hd
        have hx : kx (if q.1 % (e0.natAbs : Int) = (i : Int) then some (.int q.2) else none) Mx := hx
        refine el_if2 (decide (q.1 % (e0.natAbs : Int) = (i : Int))) (fun k hk => ?_) (fun hb => ?_) fun hb => ?_
        · exact rd_op (x := .int (q.1 % (e0.natAbs : Int))) (y := .int (i : Int)) _ (fun k hk => rd_modI q.1 _ (fun k hk => rd_intI _ (fun k hk => hk) k hk) (fun k hk => hk) (by omega) k hk) (fun k hk => hk) hk
        · rw [if_pos (by simpa using hb)] at hx; exact hx
        · rw [if_neg (by simpa using hb)] at hx; exact hx
      · rw [fm_cs]; exact hk
    · have e : ((List.range e0.natAbs).map fun (i : Nat) => D.int (i : Int)).map (fun d => match d with | .int j => D.int (csL (fun r => decide (r % (e0.natAbs : Int) = j)) F % p) | d => d) = (lfold p e0.natAbs F).map D.int := by
        unfold lfold; rw [List.map_map, List.map_map]; rfl
      rw [e]; exact hk
theorem ok_law_has_lamp_part (Df : DefAt K mg "_law_has_lamp_part" s_law_has_lamp_part ["p", "form", "n"]) (g : Gb K mg) (hW : W.K = K) (c_law_common : CalD P w K mg base W 1 "_law_common" ["n", "p"] spCommon) (c_law_fold : CalD P w K mg base W 1 "_law_fold" ["p", "form"] spLFold) : CalD P w K mg base W 2 "_law_has_lamp_part" ["p", "form", "n"] spHas :=
  okC Df sc_law_has_lamp_part (fun ds M k e ⟨_, _, _, _, h, _⟩ => by rw [h]; rfl) fun f cdv A outer s H E F0 ds M kk e hr ⟨p, e0, F, n, hd, hp, he, hl, n1, n2, hc, hk⟩ => by
    subst hd
    refine ⟨_, (psd_cons (psd_if (ptd_cmp (od_eq hr.units0) (pd_ix (pd_var 1) pd_int) pd_int (nomark _)) (psd_cons (psd_set 3 sc_law_has_lamp_part.nd (pd_cal c_law_common (hr.mono (by decide)) (pda_cons (pd_var 2) (pda_cons (pd_var 0) pda_nil)))) (psd_one (psd_ret (pd_cmp (od_eq hr.units0) (pd_lc (own := [("room", 5), ("standing", 6)]) rfl sc_law_has_lamp_part.nd (pid_tup hW.symm (pd_ix (pd_var 1) pd_int)) (blkOk_by (by first | kernel_rfl | rfl)) (sim_tup (n := 2) (sims_cons (sim_name (i := 5) (by decide)) (sims_cons (sim_name (i := 6) (by decide)) sims_nil))) (fun _ _ _ _ _ => hW ▸ pg_tup rfl (pgs_cons (pg_name (i := 5) sc_law_has_lamp_part.nd rfl (by first | exact Or.inl rfl | exact Or.inr rfl)) (pgs_cons (pg_name (i := 6) sc_law_has_lamp_part.nd rfl (by first | exact Or.inl rfl | exact Or.inr rfl)) pgs_nil))) (fun _ _ _ _ _ => ptsd_one (ptd_cmp (od_ne hr.units0) (pd_op od_mod (pd_callTy cd_int rfl g.int_ PyProof.Rows.Boot.«int» (pda_cons (pd_var 6) pda_nil)) (pd_var 3)) pd_int (nomark _))) (fun _ _ _ _ _ => pd_int)) (pd_lst pda_nil) (nomark _))))) psd_nil) (psd_cons (psd_if (ptd_cmp (od_ne hr.units0) (pd_op od_mod (pd_callTy cd_int rfl g.int_ PyProof.Rows.Boot.«int» (pda_cons (pd_ix (pd_var 1) pd_int) pda_nil)) (pd_var 2)) pd_int (nomark _)) (psd_one (psd_ret pd_bl)) psd_nil) (psd_cons (psd_asg (pd_tup (pda_cons (pd_cal c_law_fold (hr.mono (by decide)) (pda_cons (pd_var 0) (pda_cons (pd_var 1) pda_nil))) (pda_cons (pd_op od_div (pd_callB cd_abs rfl g.abs_ PyProof.Rows.Boot.«abs» (pda_cons (pd_ix (pd_var 1) pd_int) pda_nil)) (pd_var 2)) pda_nil))) (pgd_tup rfl (pgsd_cons (pgd_name 4 sc_law_has_lamp_part.nd) (pgsd_cons (pgd_name 3 sc_law_has_lamp_part.nd) pgsd_nil)))) (psd_one (psd_ret (pd_cmp (od_eqT hr.units) (pd_var 4) (pd_op od_add (pd_sl (pd_var 4) (pod_some (pd_var 3)) pod_none) (pd_sl (pd_var 4) pod_none (pod_some (pd_var 3)))) (nomark _))))))), ?_⟩
    refine rd_cut (decide (e0 = 0)) (fun k hk => hk) (fun hb => ?_) fun hb => ?_
    · have hk : kk (.bl (F.all fun q => decide (q.2 % commL n p = 0))) M := by
        have e : hasL p e0 F n = F.all fun q => decide (q.2 % commL n p = 0) := if_pos (by simpa using hb)
        rw [← e]; exact hk
      refine rd_seqx (x := .int (commL n p)) (fun k hk => rd_call k (fun k hk => hk) ⟨n, p, rfl, by omega, by omega, hk⟩) ?_
      refine rd_ret (rd_op (x := .lst ((F.map pairD).filterMap fun d => if (match d with | .tup [_, .int b] => decide (b % commL n p = 0) | _ => true) = true then none else some (.int 1))) (y := .lst []) _ (fun k hk => ?_) (fun k hk => ⟨by rw [sizeLine_eq]; simp, hk⟩) ?_)
      · refine rd_lcf (ds := F.map pairD) (fun d => if (match d with | .tup [_, .int b] => decide (b % commL n p = 0) | _ => true) = true then none else some (.int 1)) (fun k hk => rd_itT (fun k hk => hk) k hk) (by rw [sizeLine_eq]; simp; omega) (fun d hd Mx sM kx hx => ?_) k hk
        obtain ⟨q, hq, rfl⟩ := List.mem_map.mp hd
        have hx : kx (if decide (q.2 % commL n p = 0) = true then none else some (.int 1)) Mx := hx
        refine el_if2 (!decide (q.2 % commL n p = 0)) (fun k hk => ?_) (fun hb => ?_) fun hb => ?_
        · exact rd_op (x := .int (q.2 % commL n p)) (y := .int 0) _ (fun k hk => rd_modI q.2 _ (fun k hk => rd_intI _ (fun k hk => hk) k hk) (fun k hk => hk) hc k hk) (fun k hk => hk) hk
        · rw [if_neg (by simpa using hb)] at hx; exact hx
        · rw [if_pos (by simpa using hb)] at hx; exact hx
      · have e : ((F.map pairD).filterMap fun d => if (match d with | .tup [_, .int b] => decide (b % commL n p = 0) | _ => true) = true then none else some (D.int 1)).isEmpty = F.all fun q => decide (q.2 % commL n p = 0) := by
          rw [fm_empty (fun d => match d with | .tup [_, .int b] => decide (b % commL n p = 0) | _ => true), List.all_map]; rfl
        show kk (.bl (List.isEmpty _)) M
        rw [e]; exact hk
    · have he0 : ¬ e0 = 0 := by simpa using hb
      have hk : kk (.bl (if e0 % n ≠ 0 then false else decide (lfold p e0.natAbs F = (lfold p e0.natAbs F).drop (e0.natAbs / n.toNat) ++ (lfold p e0.natAbs F).take (e0.natAbs / n.toNat)))) M := by
        have e : hasL p e0 F n = _ := if_neg he0
        rw [← e]; exact hk
      refine rd_cut (!decide (e0 % n = 0)) (fun k hk => rd_op (x := .int (e0 % n)) (y := .int 0) _ (fun k hk => rd_modI e0 n (fun k hk => rd_intI _ (fun k hk => hk) k hk) (fun k hk => hk) (by omega) k hk) (fun k hk => hk) hk) (fun hb => ?_) fun hb => ?_
      · rw [if_pos (by simpa using hb)] at hk; exact hk
      · rw [if_neg (by simpa using hb)] at hk
        have hlog : n.natAbs.log2 < 64 := Nat.log2_lt (by omega) |>.mpr (by omega)
        have hdv : (e0.natAbs : Int) / n = ((e0.natAbs / n.toNat : Nat) : Int) := by
          rw [Int.natCast_ediv]
          congr 1
          omega
        have hlen : (lfold p e0.natAbs F).length = e0.natAbs := by unfold lfold; simp
        generalize hxs : lfold p e0.natAbs F = xs at hk hlen
        refine rd_asg2 (x := .tup (xs.map D.int)) (y := .int ((e0.natAbs / n.toNat : Nat) : Int)) (fun k hk => ?_) (fun k hk => ?_) rfl ?_
        · exact rd_call k (fun k hk => hk) ⟨p, e0, F, rfl, hp, by omega, he, hl, by rw [hxs]; exact hk⟩
        · exact rd_divI (e0.natAbs : Int) n (fun k hk => rd_absI e0 (fun k hk => hk) k hk) (fun k hk => hk) ⟨by omega, by omega⟩ k (by rw [hdv]; exact hk)
        · refine rd_ret (rd_op (x := .tup (xs.map D.int)) (y := .tup ((xs.drop (e0.natAbs / n.toNat) ++ xs.take (e0.natAbs / n.toNat)).map D.int)) _ (fun k hk => hk) (fun k hk => ?_) (rd_eqInts hk))
          have c1 : cutD (xs.map D.int) (some ((e0.natAbs / n.toNat : Nat) : Int)) none = (xs.drop (e0.natAbs / n.toNat)).map D.int := by rw [List.map_drop]; exact cut_from _ _
          have c2 : cutD (xs.map D.int) none (some ((e0.natAbs / n.toNat : Nat) : Int)) = (xs.take (e0.natAbs / n.toNat)).map D.int := by rw [List.map_take]; exact cut_to _ _
          refine rd_op (x := .tup ((xs.drop (e0.natAbs / n.toNat)).map D.int)) (y := .tup ((xs.take (e0.natAbs / n.toNat)).map D.int)) k (fun k hk => ?_) (fun k hk => ?_) ⟨by rw [sizeLine_eq]; simp; omega, by rw [← List.map_append]; exact hk⟩
          · rw [← c1] at hk; exact hk
          · rw [← c2] at hk; exact hk
theorem ok_law_lamps_times (Df : DefAt K mg "_law_lamps_times" s_law_lamps_times ["p", "form", "n"]) (g : Gb K mg) (hW : W.K = K) : CalD P w K mg base W 1 "_law_lamps_times" ["p", "form", "n"] spTimes :=
  okC Df sc_law_lamps_times (fun ds M k e ⟨_, _, _, _, h, _⟩ => by rw [h]; rfl) fun f cdv A outer s H E F0 ds M kk e hr ⟨p, e0, F, n, hd, hp, hl, hF, n1, n2, hen, hk⟩ => by
    subst hd
    refine ⟨_, (psd_cons (psd_asg (pd_var 1) (pgd_tup rfl (pgsd_cons (pgd_name 5 sc_law_lamps_times.nd) (pgsd_cons (pgd_name 6 sc_law_lamps_times.nd) pgsd_nil)))) (psd_cons (psd_if (ptd_cmp (od_eq hr.units0) (pd_var 5) pd_int (nomark _)) (psd_cons (psd_setLc 7 (own := [("room", 8), ("standing", 9)]) rfl sc_law_lamps_times.nd (pid_tup hW.symm (pd_var 6)) (blkOk_by (by first | kernel_rfl | rfl)) (sim_tup (n := 2) (sims_cons (sim_name (i := 8) (by decide)) (sims_cons (sim_name (i := 9) (by decide)) sims_nil))) (fun _ _ _ _ _ => hW ▸ pg_tup rfl (pgs_cons (pg_name (i := 8) sc_law_lamps_times.nd rfl (by first | exact Or.inl rfl | exact Or.inr rfl)) (pgs_cons (pg_name (i := 9) sc_law_lamps_times.nd rfl (by first | exact Or.inl rfl | exact Or.inr rfl)) pgs_nil))) (fun _ _ _ _ _ => ptsd_nil) (fun _ _ _ _ _ => (pd_tup (pda_cons (pd_var 8) (pda_cons (pd_op od_mod (pd_callTy cd_int rfl g.int_ PyProof.Rows.Boot.«int» (pda_cons (pd_op od_mul (pd_var 9) (pd_var 2)) pda_nil)) (pd_var 0)) pda_nil)))) (by first | rfl | kernel_rfl)) (psd_one (psd_ret (pd_tup (pda_cons pd_int (pda_cons (pd_callTy cd_tuple rfl g.tuple_ PyProof.Rows.Boot.«tuple» (pda_cons (pd_lc (own := [("room", 8), ("standing", 9)]) rfl sc_law_lamps_times.nd (pid_list hW.symm (pd_var 7)) (blkOk_by (by first | kernel_rfl | rfl)) (sim_tup (n := 2) (sims_cons (sim_name (i := 8) (by decide)) (sims_cons (sim_name (i := 9) (by decide)) sims_nil))) (fun _ _ _ _ _ => hW ▸ pg_tup rfl (pgs_cons (pg_name (i := 8) sc_law_lamps_times.nd rfl (by first | exact Or.inl rfl | exact Or.inr rfl)) (pgs_cons (pg_name (i := 9) sc_law_lamps_times.nd rfl (by first | exact Or.inl rfl | exact Or.inr rfl)) pgs_nil))) (fun _ _ _ _ _ => ptsd_one (ptd_cmp (od_ne hr.units0) (pd_var 9) pd_int (nomark _))) (fun _ _ _ _ _ => (pd_tup (pda_cons (pd_var 8) (pda_cons (pd_var 9) pda_nil))))) pda_nil)) pda_nil)))))) psd_nil) (psd_cons (psd_set 3 sc_law_lamps_times.nd pd_dnew) (psd_cons (psd_for PassesOwn.never rfl (pid_range1 g.range_ (pda_cons (pd_var 2) pda_nil)) (pgd_name 4 sc_law_lamps_times.nd) (psd_one (psd_for PassesOwn.never rfl (pid_tup hW.symm (pd_var 6)) (pgd_tup rfl (pgsd_cons (pgd_name 8 sc_law_lamps_times.nd) (pgsd_cons (pgd_name 9 sc_law_lamps_times.nd) pgsd_nil))) (psd_cons (psd_set 10 sc_law_lamps_times.nd (pd_op od_add (pd_var 8) (pd_op od_mul (pd_var 4) (pd_var 5)))) (psd_one (psd_dput (hu1 hr) (pd_var 3) (pd_var 10) (pd_op od_mod (pd_callTy cd_int rfl g.int_ PyProof.Rows.Boot.«int» (pda_cons (pd_op od_add (pd_dget2 (hu1 hr) (pd_var 3) (pd_var 10) pd_int) (pd_var 9)) pda_nil)) (pd_var 0)))))))) (psd_one (psd_ret (pd_forget 3 (pd_tup (pda_cons (pd_op od_mul (pd_var 2) (pd_var 5)) (pda_cons (pd_callTy cd_tuple rfl g.tuple_ PyProof.Rows.Boot.«tuple» (pda_cons (pd_lc (own := [("room", 8)]) rfl sc_law_lamps_times.nd (pid_list hW.symm (pd_callB (cd_sortedA rfl) rfl g.sorted_ PyProof.Rows.Boot.«sorted» (pda_cons (pd_var 3) pda_nil))) (blkOk_by (by first | kernel_rfl | rfl)) (sim_name (i := 8) (by decide)) (fun _ _ _ _ _ => pg_name (i := 8) sc_law_lamps_times.nd rfl (by first | exact Or.inl rfl | exact Or.inr rfl)) (fun _ _ _ _ _ => ptsd_one (ptd_cmp (od_ne hr.units0) (pd_dget (hu1 hr) (pd_var 3) (pd_var 8)) pd_int (nomark _))) (fun _ _ _ _ _ => (pd_tup (pda_cons (pd_var 8) (pda_cons (pd_dget (hu1 hr) (pd_var 3) (pd_var 8)) pda_nil))))) pda_nil)) pda_nil)))))))))), ?_⟩
    refine ⟨rfl, rd_tgt2 ?_⟩
    dsimp only
    refine rd_cut (decide (e0 = 0)) (fun k hk => hk) (fun hb => ?_) fun hb => ?_
    · have hk : kk (formD 0 ((F.map fun q => (q.1, (q.2 * n) % p)).filter fun q => decide (q.2 ≠ 0))) M := by
        have e : timesD p e0 F n = _ := if_pos (by simpa using hb)
        rw [← e]; exact hk
      refine rd_seqx (x := .lst ((F.map fun q => (q.1, (q.2 * n) % p)).map pairD)) (fun k hk => rd_lcm (ds := F.map pairD) (fun d => match d with | .tup [.int a, .int b] => .tup [.int a, .int ((b * n) % p)] | d => d) (fun k hk => rd_itT (fun k hk => hk) k hk) (by rw [sizeLine_eq]; simp; omega) (fun d hd Mx sM kx hx => ?_) k ?_) ?_
      · obtain ⟨q, hq, rfl⟩ := List.mem_map.mp hd
        have hq2 := hF q hq
        exact el_yes2 (rd_tup2 (x := .int q.1) (y := .int ((q.2 * n) % p)) (fun k hk => hk) (fun k hk => rd_modI _ p (fun k hk => rd_intI _ (fun k hk => rd_mulI q.2 n (fun k hk => hk) (fun k hk => hk) (mulW hq2.1 (by omega)) k hk) k hk) (fun k hk => hk) hp k hk) _ hx)
      · have e : (F.map pairD).map (fun d => match d with | .tup [.int a, .int b] => D.tup [.int a, .int ((b * n) % p)] | d => d) = (F.map fun q => (q.1, (q.2 * n) % p)).map pairD := by
          rw [List.map_map, List.map_map]; rfl
        rw [e]; exact hk
      · have hlen : (F.map fun q => (q.1, (q.2 * n) % p)).length ≤ 1000 := by simpa using hl
        generalize (F.map fun q => (q.1, (q.2 * n) % p)) = R at hk hlen
        refine rd_ret (rd_tup2 (x := .int 0) (y := .tup ((R.filter fun q => decide (q.2 ≠ 0)).map pairD)) (fun k hk => hk) (fun k hk => rd_cb1 k (fun k hk => rd_lcf (ds := R.map pairD) (fun d => match d with | .tup [.int a, .int b] => (if b = 0 then none else some (.tup [.int a, .int b])) | _ => none) (fun k hk => rd_itL (fun k hk => hk) k hk) (by rw [sizeLine_eq]; simp; omega) (fun d hd Mx sM kx hx => ?_) k hk) ?_) _ hk)
        · obtain ⟨q, hq, rfl⟩ := List.mem_map.mp hd
          have hx : kx (if q.2 = 0 then none else some (.tup [.int q.1, .int q.2])) Mx := hx
          refine el_if2 (!decide (q.2 = 0)) (fun k hk => hk) (fun hb => ?_) fun hb => ?_
          · rw [if_neg (by simpa using hb)] at hx
            exact rd_tup2 (x := .int q.1) (y := .int q.2) (fun k hk => hk) (fun k hk => hk) _ hx
          · rw [if_pos (by simpa using hb)] at hx
            exact hx
        · rw [← fm_nz R] at hk
          exact hk
    · have he0 : ¬ e0 = 0 := by simpa using hb
      obtain ⟨n3, e3⟩ : n ≤ 1000 ∧ e0.natAbs ≤ 1000 := by rcases hen with h | h; exact absurd h he0; exact h
      have hk : kk (.tup [.int (n * e0), formL (tmL p e0 F n.toNat)]) M := by
        have e : timesD p e0 F n = _ := if_neg he0
        rw [← e]; exact hk
      refine rd_seqA (m := .dic (kvsOf [])) (fun k hk => hk) fun a ha => ?_
      refine rd_for (ds := (List.range n.toNat).map fun (i : Nat) => D.int (i : Int)) (M1 := updM M a (.dic (kvsOf []))) (fun r δ M' => ∃ (ts : List Nat) (acc : DI) (y4 y8 y9 y10 : Option D), r = ts.map (fun (i : Nat) => D.int (i : Int)) ∧ (∀ t ∈ ts, t < 1000) ∧ δ = [some (.int p), some (formD e0 F), some (.int n), some (.ref a), y4, some (.int e0), some (.tup (F.map pairD)), none, y8, y9, y10] ∧ M' = updM M a (.dic (kvsOf acc)) ∧
        ts.foldl (fun acc (t : Nat) => F.foldl (tmF p e0 t) acc) acc = tmL p e0 F n.toNat ∧ (acc.map (·.1)).Nodup ∧ acc.length + 1000 * ts.length ≤ 1000000) (fun k hk => ⟨by omega, by omega, hk⟩) ⟨List.range n.toNat, [], none, none, none, none, rfl, fun t ht => by have := List.mem_range.mp ht; omega, rfl, rfl, rfl, .nil, by simp; omega⟩ ?_ ?_
      · rintro x r δ M' K' ⟨ts, acc, y4, y8, y9, y10, hr1, hts, rfl, rfl, hf, hn, hln⟩ hK
        cases ts with
        | nil => cases hr1
        | cons t ts =>
          obtain ⟨rfl, rfl⟩ := List.cons.inj hr1
          have ht := hts t List.mem_cons_self
          obtain ⟨g1, g2⟩ := tmF_ok (p := p) (e := e0) (t := t) F acc hn
          simp only [List.length_cons] at hln
          refine rd_itT (ds := F.map pairD) (M1 := updM M a (.dic (kvsOf acc))) (fun k hk => hk) _ ?_
          refine for_of (fun r δ M' => ∃ (rs acc2 : DI) (y8 y9 y10 : Option D), r = rs.map pairD ∧ (∀ q ∈ rs, q ∈ F) ∧ δ = [some (.int p), some (formD e0 F), some (.int n), some (.ref a), some (.int (t : Int)), some (.int e0), some (.tup (F.map pairD)), none, y8, y9, y10] ∧ M' = updM M a (.dic (kvsOf acc2)) ∧
            rs.foldl (tmF p e0 t) acc2 = F.foldl (tmF p e0 t) acc ∧ (acc2.map (·.1)).Nodup ∧ acc2.length + rs.length ≤ 2000000) ?_ ?_ _ _ _ ⟨F, acc, y8, y9, y10, rfl, fun _ h => h, rfl, rfl, rfl, hn, by omega⟩
          · rintro x r δ M' K2 ⟨rs, acc2, y8, y9, y10, hr2, hrs, rfl, rfl, hf2, hn2, hl2⟩ hK2
            cases rs with
            | nil => cases hr2
            | cons q rs =>
              obtain ⟨rfl, rfl⟩ := List.cons.inj hr2
              simp only [List.length_cons] at hl2
              refine ⟨rfl, rd_tgt2 ?_⟩
              refine rd_seqx (x := .int (q.1 + t * e0)) (fun k hk => rd_addI q.1 _ (fun k hk => hk) (fun k hk => rd_mulI (t : Int) e0 (fun k hk => hk) (fun k hk => hk) (mulW (by omega) (by omega)) k hk) k hk) ?_
              refine rd_dputS (L := acc2) (j := q.1 + t * e0) (v := (getI acc2 (q.1 + t * e0) + q.2) % p) (fun k hk => ?_) (fun k hk => hk) (fun k hk => hk) (by rw [sizeLine_eq]; omega) ?_
              · exact rd_modI _ p (fun k hk => rd_intI _ (fun k hk => rd_addI _ q.2 (fun k hk => rd_dget2I (j := q.1 + t * e0) dicOf_ref (fun k hk => hk) (fun k hk => hk) (fun k hk => hk) k hk) (fun k hk => hk) k hk) k hk) (fun k hk => hk) hp _ hk
              · have := len_put acc2 (q.1 + t * e0) ((getI acc2 (q.1 + t * e0) + q.2) % p)
                exact hK2 _ _ ⟨rs, tmF p e0 t acc2 q, some (.int q.1), some (.int q.2), some (.int (q.1 + t * e0)), rfl, fun z hz => hrs z (List.mem_cons_of_mem _ hz), rfl, rfl, hf2, nodup_put hn2, by unfold tmF; omega⟩
          · rintro δ M' ⟨rs, acc2, y8, y9, y10, hr2, hrs, rfl, rfl, hf2, hn2, hl2⟩
            cases rs with
            | cons _ _ => cases hr2
            | nil =>
              have hf2 : acc2 = F.foldl (tmF p e0 t) acc := hf2
              refine hK _ _ ⟨ts, acc2, some (.int (t : Int)), y8, y9, y10, rfl, fun z hz => hts z (List.mem_cons_of_mem _ hz), rfl, rfl, by rw [hf2]; exact hf, hn2, by rw [hf2]; omega⟩
      · rintro δ M' ⟨ts, acc, y4, y8, y9, y10, hr1, hts, rfl, rfl, hf, hn, hln⟩
        cases ts with
        | cons _ _ => cases hr1
        | nil =>
          have hf : acc = tmL p e0 F n.toNat := hf
          rw [← hf] at hk
          refine rd_ret (rd_forget rfl (fun k hk => rd_tup2 (x := .int (n * e0)) (y := formL acc) (fun k hk => rd_mulI n e0 (fun k hk => hk) (fun k hk => hk) (mulW (by omega) (by omega)) k hk) (fun k hk => by
            refine rd_sform (a := a) ?_ ?_ ?_ updM_same hn (by rw [sizeLine_eq]; simp at hln; omega) k hk
            · exact fun _ k hk => hk
            · exact fun _ _ k hk => hk
            · exact fun _ _ k hk => hk) k hk) updM_same rfl ?_)
          rw [updM_del ha]; exact hk
theorem ok_law_is_lamp_part (Df : DefAt K mg "_law_is_lamp_part" s_law_is_lamp_part ["p", "form", "n", "part"]) (g : Gb K mg) (hW : W.K = K) (c_law_lamps_times : CalD P w K mg base W 1 "_law_lamps_times" ["p", "form", "n"] spTimes) : CalD P w K mg base W 2 "_law_is_lamp_part" ["p", "form", "n", "part"] spIsPart :=
  okC Df sc_law_is_lamp_part (fun ds M k e ⟨_, _, _, _, _, _, h, _⟩ => by rw [h]; rfl) fun f cdv A outer s H E F0 ds M kk e hr ⟨p, e0, F, n, e', F', hd, hp, hl, hF, n1, n2, hen, h1, h2, hk⟩ => by
    subst hd
    refine ⟨_, (psd_one (psd_ret (pd_and (pd_cmp (od_eq hr.units0) (pd_op od_mul (pd_ix (pd_var 3) pd_int) (pd_var 2)) (pd_ix (pd_var 1) pd_int) (nomark _)) (pd_one (pd_cmp (od_eqT hr.units) (pd_cal c_law_lamps_times (hr.mono (by decide)) (pda_cons (pd_var 0) (pda_cons (pd_var 3) (pda_cons (pd_var 2) pda_nil)))) (pd_var 1) (nomark _)))))), ?_⟩
    refine rd_ret (rd_andV true true (fun k hk => ?_) (fun _ k hk => ?_) _ hk)
    · refine rd_op (x := .int (e' * n)) (y := .int e0) k (fun k hk => rd_mulI e' n (fun k hk => hk) (fun k hk => hk) ?_ k hk) (fun k hk => hk) ?_
      · exact mulV (by omega) (by omega)
      · show k (.bl (decide (e' * n = e0))) M
        rw [decide_eq_true h1]; exact hk
    · refine rd_op (x := timesD p e' F' n) (y := formD e0 F) k (fun k hk => rd_call k (fun k hk => hk) ⟨p, e', F', n, rfl, hp, hl, hF, n1, n2, hen, hk⟩) (fun k hk => hk) ?_
      rw [h2]
      exact rd_eqSame (ni_form e0 F).1 (ni_form e0 F).2 hk
end
end Kx
set_option maxHeartbeats 2000000
namespace Kx
open PySem PySem.Spec L2 DL
/-! ### equal up to p -/
def Mq (p a b : Int) : Prop := ∃ k, a = b + p * k
theorem Mq.rf (p a : Int) : Mq p a a := ⟨0, by simp⟩
theorem Mq.of {p a b : Int} (h : a = b) : Mq p a b := h ▸ Mq.rf p a
theorem Mq.symm {p a b : Int} : Mq p a b → Mq p b a := fun ⟨k, h⟩ => ⟨-k, by grind⟩
theorem Mq.trans {p a b c : Int} : Mq p a b → Mq p b c → Mq p a c := fun ⟨k, h⟩ ⟨l, h2⟩ => ⟨k + l, by grind⟩
theorem Mq.add {p a b c d : Int} : Mq p a b → Mq p c d → Mq p (a + c) (b + d) := fun ⟨k, h⟩ ⟨l, h2⟩ => ⟨k + l, by grind⟩
theorem Mq.sub {p a b c d : Int} : Mq p a b → Mq p c d → Mq p (a - c) (b - d) := fun ⟨k, h⟩ ⟨l, h2⟩ => ⟨k - l, by grind⟩
theorem Mq.mul {p a b : Int} (c : Int) : Mq p a b → Mq p (c * a) (c * b) := fun ⟨k, h⟩ => ⟨c * k, by grind⟩
theorem Mq.mod (p a : Int) : Mq p (a % p) a := ⟨-(a / p), by have := Int.emod_add_mul_ediv a p; grind⟩
theorem mq_iff {p a b : Int} : Mq p a b ↔ a % p = b % p := by
  constructor
  · rintro ⟨k, rfl⟩; exact Int.add_mul_emod_self_left ..
  · intro h; exact (Mq.mod p a).symm.trans (h ▸ Mq.mod p b)
theorem Mq.eq {p a b : Int} (h : Mq p a b) (a0 : 0 ≤ a) (a1 : a < p) (b0 : 0 ≤ b) (b1 : b < p) : a = b := by
  have := mq_iff.mp h
  rwa [Int.emod_eq_of_lt a0 a1, Int.emod_eq_of_lt b0 b1] at this
/-! ### dicts of ints by cases -/
theorem getI_nil (k : Int) : getI [] k = 0 := rfl
theorem getI_cons (q : Int × Int) (L : DI) (k : Int) : getI (q :: L) k = if q.1 = k then q.2 else getI L k := by
  unfold getI
  rw [List.find?_cons]
  by_cases h : q.1 = k
  · simp [h]
  · simp [h]
theorem getI_no {L : DI} {k : Int} (h : ¬ k ∈ L.map (·.1)) : getI L k = 0 := by
  induction L with
  | nil => rfl
  | cons q L ih =>
    rw [List.map_cons, List.mem_cons, not_or] at h
    rw [getI_cons, if_neg fun e => h.1 e.symm, ih h.2]
theorem getI_key {L : DI} {k : Int} (h : getI L k ≠ 0) : k ∈ L.map (·.1) := Classical.byContradiction fun z => h (getI_no z)
theorem putI_nil (k v : Int) : putI [] k v = [(k, v)] := rfl
theorem putI_ne {q : Int × Int} {L : DI} {k v : Int} (h : ¬ q.1 = k) : putI (q :: L) k v = q :: putI L k v := by
  unfold putI
  rw [List.any_cons, decide_eq_false h, Bool.false_or]
  split
  · rw [List.map_cons, if_neg h]
  · rfl
theorem putI_eq {q : Int × Int} {L : DI} {k v : Int} (h : q.1 = k) (hn : ¬ k ∈ L.map (·.1)) : putI (q :: L) k v = (k, v) :: L := by
  unfold putI
  rw [List.any_cons, decide_eq_true h, Bool.true_or, if_pos rfl, List.map_cons, if_pos h, h]
  congr 1
  conv => rhs; rw [← List.map_id L]
  refine List.map_congr_left fun x hx => ?_
  rw [if_neg]; · rfl
  exact fun e => hn (List.mem_map.mpr ⟨x, hx, e⟩)
/-! ### sums over a class of places -/
theorem cs_nil (P : Int → Bool) : csL P [] = 0 := rfl
theorem cs_cons (P : Int → Bool) (q : Int × Int) (L : DI) : csL P (q :: L) = (if P q.1 = true then q.2 else 0) + csL P L := by
  unfold csL
  rw [List.filter_cons]
  split
  · rw [List.map_cons, List.sum_cons]
  · rw [Int.zero_add]
theorem cs_congr {P Q : Int → Bool} : ∀ {L : DI}, (∀ q ∈ L, P q.1 = Q q.1) → csL P L = csL Q L
  | [], _ => rfl
  | q :: L, h => by
    rw [cs_cons, cs_cons, h q List.mem_cons_self, cs_congr fun x hx => h x (List.mem_cons_of_mem _ hx)]
theorem cs_none {P : Int → Bool} : ∀ {L : DI}, (∀ q ∈ L, P q.1 = false) → csL P L = 0
  | [], _ => rfl
  | q :: L, h => by
    rw [cs_cons, h q List.mem_cons_self, cs_none fun x hx => h x (List.mem_cons_of_mem _ hx)]; rfl
theorem cs_nz (P : Int → Bool) : ∀ L : DI, csL P (nz L) = csL P L
  | [] => rfl
  | q :: L => by
    have ih := cs_nz P L
    unfold nz at ih ⊢
    rw [List.filter_cons, cs_cons P q L, ← ih]
    by_cases h : q.2 = 0
    · rw [if_neg (by simpa using h), h]; simp
    · rw [if_pos (by simpa using h), cs_cons]
theorem cs_mov (P : Int → Bool) (d : Int) : ∀ L : DI, csL P (movL L d) = csL (fun r => P (r + d)) L
  | [] => rfl
  | q :: L => by
    have ih := cs_mov P d L
    show csL P ((q.1 + d, q.2) :: movL L d) = _
    rw [cs_cons, cs_cons, ih]
theorem cs_put (P : Int → Bool) {k v : Int} : ∀ {L : DI}, (L.map (·.1)).Nodup → csL P (putI L k v) = csL P L + if P k = true then v - getI L k else 0
  | [], _ => by rw [putI_nil, cs_cons, cs_nil, getI_nil]; split <;> omega
  | q :: L, hn => by
    obtain ⟨n1, n2⟩ := List.nodup_cons.mp hn
    by_cases h : q.1 = k
    · rw [putI_eq h (h ▸ n1), cs_cons, cs_cons, getI_cons, if_pos h, h]
      dsimp only
      split <;> omega
    · rw [putI_ne h, cs_cons, cs_cons, getI_cons, if_neg h, cs_put P n2]
      omega
theorem cs_get {L : DI} (hn : (L.map (·.1)).Nodup) (r : Int) : csL (fun k => decide (k = r)) L = getI L r := by
  induction L with
  | nil => rfl
  | cons q L ih =>
    obtain ⟨n1, n2⟩ := List.nodup_cons.mp hn
    rw [cs_cons, getI_cons, ih n2]
    by_cases h : q.1 = r
    · rw [if_pos (by simpa using h), if_pos h, getI_no (h ▸ n1)]; omega
    · rw [if_neg (by simpa using h), if_neg h]; omega
theorem cs_or {P Q : Int → Bool} (h : ∀ k, P k = true → Q k = true → False) : ∀ L : DI, csL (fun k => P k || Q k) L = csL P L + csL Q L
  | [] => rfl
  | q :: L => by
    rw [cs_cons, cs_cons, cs_cons, cs_or h L]
    have := h q.1
    cases hp : P q.1 <;> cases hq : Q q.1 <;> simp [hp, hq] at this ⊢ <;> omega
theorem cs_putq (P : Int → Bool) {p k v : Int} {L : DI} (hn : (L.map (·.1)).Nodup) : Mq p (csL P (putI L k ((getI L k + v) % p))) (csL P L + if P k = true then v else 0) := by
  rw [cs_put P hn]
  refine Mq.add (Mq.rf _ _) ?_
  split
  · obtain ⟨c, hc⟩ := Mq.mod p (getI L k + v)
    exact ⟨c, by grind⟩
  · exact Mq.rf _ _
theorem cs_add (P : Int → Bool) {p c : Int} : ∀ (L2 L1 : DI), (L1.map (·.1)).Nodup → Mq p (csL P (L2.foldl (addF p c) L1)) (csL P L1 + c * csL P L2)
  | [], L1, _ => Mq.of (by show csL P L1 = _; rw [cs_nil]; simp)
  | q :: L2, L1, hn => by
    have h1 := cs_add P (p := p) (c := c) L2 (addF p c L1 q) (nodup_put hn)
    have h2 : Mq p (csL P (addF p c L1 q)) _ := cs_putq P (p := p) (k := q.1) (v := c * q.2) hn
    refine h1.trans ((h2.add (Mq.rf _ (c * csL P L2))).trans (Mq.of ?_))
    rw [cs_cons]
    split <;> grind
theorem cs_addL (P : Int → Bool) {p c : Int} {L1 L2 : DI} (hn : (L1.map (·.1)).Nodup) : Mq p (csL P (addL p L1 L2 c)) (csL P L1 + c * csL P L2) := by
  unfold addL
  rw [cs_nz]
  exact cs_add P L2 L1 hn
theorem getI_nz {L : DI} (hn : (L.map (·.1)).Nodup) (r : Int) : getI (nz L) r = getI L r := by
  rw [← cs_get (nodup_nz hn), cs_nz, cs_get hn]
/-! ### the sorted list of a dict -/
def FL (L : DI) : DI := ((sortU (L.map (·.1))).filter fun r => decide (getI L r ≠ 0)).map fun r => (r, getI L r)
theorem formL_FL (L : DI) : formL L = .tup ((FL L).map pairD) := by
  unfold formL FL
  congr 1
  rw [List.map_map]
  generalize sortU (L.map (·.1)) = rs
  induction rs with
  | nil => rfl
  | cons r rs ih =>
    rw [List.filter_cons]
    by_cases h : getI L r = 0
    · rw [List.filterMap_cons_none (by rw [if_pos h]), if_neg (by simpa using h), ih]
    · rw [List.filterMap_cons_some (by rw [if_neg h]), if_pos (by simpa using h), List.map_cons, ih]
      rfl
theorem FL_keys (L : DI) : (FL L).map (·.1) = (sortU (L.map (·.1))).filter fun r => decide (getI L r ≠ 0) := by
  unfold FL
  rw [List.map_map]
  conv => rhs; rw [← List.map_id ((sortU (L.map (·.1))).filter _)]
  rfl
theorem FL_pw (L : DI) : ((FL L).map (·.1)).Pairwise (· < ·) := by
  rw [FL_keys]; exact pw_sortU.filter _
theorem FL_nd (L : DI) : ((FL L).map (·.1)).Nodup := (FL_pw L).imp fun h => by omega
theorem FL_key (L : DI) (r : Int) : r ∈ (FL L).map (·.1) ↔ getI L r ≠ 0 := by
  rw [FL_keys, List.mem_filter, mem_sortU]
  simp only [decide_eq_true_eq]
  exact ⟨fun h => h.2, fun h => ⟨getI_key h, h⟩⟩
theorem FL_mem {L : DI} {q : Int × Int} (h : q ∈ FL L) : q.2 = getI L q.1 ∧ q.2 ≠ 0 := by
  have h2 : q.1 ∈ (FL L).map (·.1) := List.mem_map.mpr ⟨q, h, rfl⟩
  unfold FL at h
  obtain ⟨r, hr, rfl⟩ := List.mem_map.mp h
  exact ⟨rfl, (FL_key L r).mp h2⟩
theorem FL_get (L : DI) (r : Int) : getI (FL L) r = getI L r := by
  by_cases h : r ∈ (FL L).map (·.1)
  · obtain ⟨q, hq, rfl⟩ := List.mem_map.mp h
    rw [getI_mem (FL_nd L) hq]
    exact (FL_mem hq).1
  · rw [getI_no h]
    have := mt (FL_key L r).mpr h
    simpa using Eq.symm (Classical.not_not.mp this)
theorem FL_ext {L1 L2 : DI} (h : ∀ r, getI L1 r = getI L2 r) : FL L1 = FL L2 := by
  have e : (sortU (L1.map (·.1))).filter (fun r => decide (getI L1 r ≠ 0)) = (sortU (L2.map (·.1))).filter fun r => decide (getI L2 r ≠ 0) := by
    refine pw_eq (pw_sortU.filter _) (pw_sortU.filter _) fun k => ?_
    rw [← FL_keys, ← FL_keys, FL_key, FL_key, h]
  unfold FL
  rw [e]
  exact List.map_congr_left fun r _ => by rw [h]
theorem FL_len (L : DI) : (FL L).length ≤ L.length := by
  unfold FL
  rw [List.length_map]
  refine Nat.le_trans (List.length_filter_le _ _) (Nat.le_trans (sortU_len _) (by rw [List.length_map]; exact Nat.le_refl _))
/-- sums over a strictly sorted list by another one with the same standings -/
theorem cs_ext (P : Int → Bool) : ∀ {L1 L2 : DI}, (L1.map (·.1)).Nodup → (L2.map (·.1)).Nodup → (∀ r, getI L1 r = getI L2 r) → csL P L1 = csL P L2
  | [], L2, _, _, h => by
    refine Eq.symm ?_
    rw [← cs_nz]
    have : nz L2 = [] := List.filter_eq_nil_iff.mpr fun q hq => by
      have := h q.1
      rw [getI_mem ‹_› hq, getI_nil] at this
      simpa using this.symm
    rw [this]
  | q :: L1, L2, n1, n2, h => by
    obtain ⟨a1, a2⟩ := List.nodup_cons.mp n1
    have hq : getI L2 q.1 = q.2 := by rw [← h, getI_cons, if_pos rfl]
    have h3 := cs_put P (k := q.1) (v := 0) n2
    have := cs_ext P a2 (nodup_put (k := q.1) (v := 0) n2) fun r => by
      rw [get_put]
      have := h r
      rw [getI_cons] at this
      split
      · rename_i e; rw [e]; exact getI_no a1
      · rename_i e; rw [if_neg fun z => e z.symm] at this; exact this
    rw [cs_cons, this, h3, hq]
    split <;> omega
theorem cs_FL (P : Int → Bool) {L : DI} (hn : (L.map (·.1)).Nodup) : csL P (FL L) = csL P L := cs_ext P (FL_nd L) hn (FL_get L)
/-! ### the common divisor -/
theorem cmS_gcd {s : Int × Int} (h0 : 0 ≤ s.1) (h1 : 0 ≤ s.2) : Nat.gcd (cmS s).1.natAbs (cmS s).2.natAbs = Nat.gcd s.1.natAbs s.2.natAbs ∧ 0 ≤ (cmS s).1 ∧ 0 ≤ (cmS s).2 := by
  unfold cmS
  split
  · exact ⟨rfl, h0, h1⟩
  · rename_i h
    have h2 := Int.emod_nonneg s.1 h
    refine ⟨?_, h1, h2⟩
    show Nat.gcd s.2.natAbs (s.1 % s.2).natAbs = _
    rw [Int.natAbs_emod_of_nonneg h0, Nat.gcd_comm s.2.natAbs, ← Nat.gcd_rec, Nat.gcd_comm]
theorem cmN_gcd : ∀ (k : Nat) (s : Int × Int), 0 ≤ s.1 → 0 ≤ s.2 → Nat.gcd (cmN k s).1.natAbs (cmN k s).2.natAbs = Nat.gcd s.1.natAbs s.2.natAbs ∧ 0 ≤ (cmN k s).1 ∧ 0 ≤ (cmN k s).2
  | 0, s, h0, h1 => ⟨rfl, h0, h1⟩
  | k + 1, s, h0, h1 => by
    obtain ⟨a, b, c⟩ := cmS_gcd h0 h1
    obtain ⟨a2, b2, c2⟩ := cmN_gcd k (cmS s) b c
    exact ⟨a2.trans a, b2, c2⟩
theorem cm_half {s : Int × Int} (h0 : 0 ≤ s.1) (h1 : 0 ≤ s.2) : (cmS (cmS s)).2 * 2 ≤ s.2 ∧ 0 ≤ (cmS (cmS s)).1 ∧ 0 ≤ (cmS (cmS s)).2 := by
  obtain ⟨_, b, c⟩ := cmS_gcd h0 h1
  obtain ⟨_, b2, c2⟩ := cmS_gcd b c
  refine ⟨?_, b2, c2⟩
  by_cases h : s.2 = 0
  · have e : cmS s = s := if_pos h
    rw [e, e, h]; omega
  · have e : cmS s = (s.2, s.1 % s.2) := if_neg h
    have l1 := Int.emod_lt_of_pos s.1 (show 0 < s.2 by omega)
    rw [e] at c ⊢
    have c : 0 ≤ s.1 % s.2 := c
    generalize s.1 % s.2 = x at *
    unfold cmS
    split
    · rename_i h2; have h2 : x = 0 := h2; show x * 2 ≤ _; omega
    · rename_i h2
      have h2 : ¬ x = 0 := h2
      show s.2 % x * 2 ≤ s.2
      have l2 := Int.emod_lt_of_pos s.2 (show 0 < x by omega)
      have l3 := Int.emod_add_mul_ediv s.2 x
      have l4 : 1 ≤ s.2 / x := by rw [Int.le_ediv_iff_mul_le (by omega)]; omega
      have l5 : x * 1 ≤ x * (s.2 / x) := Int.mul_le_mul_of_nonneg_left l4 (by omega)
      omega
theorem cm_zero : ∀ (j : Nat) (s : Int × Int), 0 ≤ s.1 → 0 ≤ s.2 → s.2 < 2 ^ j → (cmN (2 * j) s).2 = 0
  | 0, s, h0, h1, h => by show s.2 = 0; simp at h; omega
  | j + 1, s, h0, h1, h => by
    obtain ⟨a, b, c⟩ := cm_half h0 h1
    exact cm_zero j (cmS (cmS s)) b c (by rw [Int.pow_succ] at h; omega)
theorem commL_gcd {n p : Int} (hn : 0 ≤ n) (hp : 0 ≤ p) (h : p < 2 ^ 30) : commL n p = ((Nat.gcd n.natAbs p.natAbs : Nat) : Int) := by
  have hz := cm_zero 30 (n, p) hn hp h
  obtain ⟨a, b, _⟩ := cmN_gcd 60 (n, p) hn hp
  unfold commL
  rw [show (2 * 30) = 60 from rfl] at hz
  rw [hz] at a
  simp only [Int.natAbs_zero, Nat.gcd_zero_right] at a
  rw [← a]; omega
/-! ### walking -/
theorem walk_app (p : Int) (ls : List Int) (t : Int) : walkW p (ls ++ [t]) = stepW p (walkW p ls) t := by unfold walkW; rw [List.foldl_append]; rfl
theorem turn_rep {p c l : Int} (hp : 0 < p) (h1 : ¬ (l = 1 ∨ l = -1)) (h2 : l / 2 = c) (R : Int) : ∀ (m : Nat) (W : DI), 0 ≤ getI W R → getI W R < p →
    ((List.replicate m l).foldl (stepW p) (R, W)).1 = R ∧ ∀ r, getI ((List.replicate m l).foldl (stepW p) (R, W)).2 r = if r = R then (getI W R + m * c) % p else getI W r
  | 0, W, g0, g1 => ⟨rfl, fun r => by
      show getI W r = _
      split
      · rename_i e; rw [e, Int.emod_eq_of_lt] <;> simp <;> omega
      · rfl⟩
  | m + 1, W, g0, g1 => by
    rw [List.replicate_succ, List.foldl_cons]
    have e : stepW p (R, W) l = (R, putI W R ((getI W R + c) % p)) := by
      unfold stepW; rw [if_neg h1, h2]
    rw [e]
    obtain ⟨a, b⟩ := turn_rep hp h1 h2 R m (putI W R ((getI W R + c) % p)) (by rw [get_put, if_pos rfl]; exact Int.emod_nonneg _ (by omega)) (by rw [get_put, if_pos rfl]; exact Int.emod_lt_of_pos _ hp)
    refine ⟨a, fun r => ?_⟩
    rw [b, get_put, get_put, if_pos rfl]
    split
    · rw [Int.emod_add_emod]
      congr 1
      rw [Int.natCast_succ]; grind
    · rfl
theorem turn_walk {p v : Int} (hp : 0 < p) (v0 : 0 ≤ v) (v1 : v < p) (R : Int) (W : DI) (hg : getI W R = 0) :
    ((turnL p v).foldl (stepW p) (R, W)).1 = R ∧ ∀ r, getI ((turnL p v).foldl (stepW p) (R, W)).2 r = if r = R then v else getI W r := by
  unfold turnL
  split
  · obtain ⟨a, b⟩ := turn_rep (p := p) (c := 1) (l := 2) hp (by omega) rfl R v.toNat W (by omega) (by omega)
    refine ⟨a, fun r => ?_⟩
    rw [b, hg]
    split
    · rw [Int.toNat_of_nonneg v0, Int.zero_add, Int.mul_one, Int.emod_eq_of_lt v0 v1]
    · rfl
  · obtain ⟨a, b⟩ := turn_rep (p := p) (c := -1) (l := -2) hp (by omega) rfl R (p - v).toNat W (by omega) (by omega)
    refine ⟨a, fun r => ?_⟩
    rw [b, hg]
    split
    · rw [Int.toNat_of_nonneg (by omega), show (0 + (p - v) * -1) = v + p * (-1) by grind, Int.add_mul_emod_self_left, Int.emod_eq_of_lt v0 v1]
    · rfl
structure InvK (p : Int) (X : DI) (s : Wk) : Prop where
  end_ : (walkW p s.ls).1 = s.room
  here : s.room ∈ s.met
  get : ∀ r, getI (walkW p s.ls).2 r = if r ∈ s.met then getI X r else 0
  ltr : ∀ l ∈ s.ls, isLtr l
theorem turn_ltr (p v : Int) : ∀ l ∈ turnL p v, isLtr l := by
  intro l hl
  unfold turnL at hl
  split at hl
  · rw [(List.mem_replicate.mp hl).2]; exact .inr (.inr (.inl rfl))
  · rw [(List.mem_replicate.mp hl).2]; exact .inr (.inr (.inr rfl))
theorem start_inv {p : Int} {X : DI} (hp : 0 < p) (hX : OkL p X) : InvK p X (startK p X) := by
  obtain ⟨g0, g1⟩ := hX.get hp 0
  obtain ⟨a, b⟩ := turn_walk hp g0 g1 0 [] rfl
  refine ⟨a, List.mem_singleton.mpr rfl, fun r => ?_, turn_ltr _ _⟩
  show getI (walkW p (turnL p (getI X 0))).2 r = if r ∈ [(0 : Int)] then _ else _
  rw [show walkW p (turnL p (getI X 0)) = (turnL p (getI X 0)).foldl (stepW p) (0, []) from rfl, b]
  by_cases h : r = 0
  · rw [if_pos h, if_pos (by rw [h]; simp), h]
  · rw [if_neg h, if_neg (by simpa using h)]; rfl
theorem step_inv {p : Int} {X : DI} (hp : 0 < p) (hX : OkL p X) {t : Int} (ht : t = 1 ∨ t = -1) {s : Wk} (h : InvK p X s) : InvK p X (stepK p X t s) := by
  have hs : stepW p (walkW p s.ls) t = (s.room + t, (walkW p s.ls).2) := by
    unfold stepW; rw [if_pos ht, h.end_]
  have hl : isLtr t := by unfold isLtr; omega
  unfold stepK
  split
  · rename_i hm
    refine ⟨?_, hm, fun r => ?_, fun l hl2 => ?_⟩
    · show (walkW p (s.ls ++ [t])).1 = _
      rw [walk_app, hs]
    · show getI (walkW p (s.ls ++ [t])).2 r = _
      rw [walk_app, hs]
      exact h.get r
    · rcases List.mem_append.mp hl2 with z | z
      · exact h.ltr l z
      · rw [List.mem_singleton.mp z]; exact hl
  · rename_i hm
    obtain ⟨g0, g1⟩ := hX.get hp (s.room + t)
    obtain ⟨a, b⟩ := turn_walk hp g0 g1 (s.room + t) (walkW p s.ls).2 (by rw [h.get, if_neg hm])
    have e : walkW p (s.ls ++ [t] ++ turnL p (getI X (s.room + t))) = (turnL p (getI X (s.room + t))).foldl (stepW p) (s.room + t, (walkW p s.ls).2) := by
      rw [← hs, ← walk_app]; unfold walkW; rw [List.foldl_append]
    refine ⟨?_, by show s.room + t ∈ s.met ++ [s.room + t]; simp, fun r => ?_, fun l hl2 => ?_⟩
    · show (walkW p (s.ls ++ [t] ++ turnL p (getI X (s.room + t)))).1 = _
      rw [e]; exact a
    · show getI (walkW p (s.ls ++ [t] ++ turnL p (getI X (s.room + t)))).2 r = if r ∈ s.met ++ [s.room + t] then _ else _
      rw [e, b]
      by_cases hr : r = s.room + t
      · rw [if_pos hr, if_pos (by rw [hr]; simp), hr]
      · rw [if_neg hr, h.get]
        by_cases hr2 : r ∈ s.met
        · rw [if_pos hr2, if_pos (List.mem_append_left _ hr2)]
        · rw [if_neg hr2, if_neg (by rw [List.mem_append, List.mem_singleton]; exact fun z => z.elim hr2 hr)]
    · rcases List.mem_append.mp hl2 with z | z
      · rcases List.mem_append.mp z with z | z
        · exact h.ltr l z
        · rw [List.mem_singleton.mp z]; exact hl
      · exact turn_ltr _ _ l z
theorem stepK_met (p : Int) (X : DI) (t : Int) (s : Wk) : (stepK p X t s).room = s.room + t ∧ (∀ r, r ∈ s.met → r ∈ (stepK p X t s).met) ∧ s.room + t ∈ (stepK p X t s).met := by
  unfold stepK
  split
  · rename_i h; exact ⟨rfl, fun _ h => h, h⟩
  · exact ⟨rfl, fun _ h => List.mem_append_left _ h, by simp⟩
theorem go_inv {p : Int} {X : DI} (hp : 0 < p) (hX : OkL p X) {t : Int} (ht : t = 1 ∨ t = -1) : ∀ (n : Nat) (s : Wk), InvK p X s → InvK p X (goK p X t n s) ∧ (∀ r, r ∈ s.met → r ∈ (goK p X t n s).met) ∧ ∀ i : Nat, i ≤ n → s.room + t * i ∈ (goK p X t n s).met
  | 0, s, h => ⟨h, fun _ h => h, fun i hi => by obtain rfl : i = 0 := by omega
                                                show s.room + t * ((0 : Nat) : Int) ∈ s.met
                                                simp; exact h.here⟩
  | n + 1, s, h => by
    obtain ⟨m1, m2, m3⟩ := stepK_met p X t s
    obtain ⟨a, b, c⟩ := go_inv hp hX ht n (stepK p X t s) (step_inv hp hX ht h)
    refine ⟨a, fun r hr => b r (m2 r hr), fun i hi => ?_⟩
    cases i with
    | zero => exact b _ (m2 _ (by simp; exact h.here))
    | succ i =>
      have := c i (by omega)
      rw [m1] at this
      rw [show s.room + t * ((i + 1 : Nat) : Int) = s.room + t + t * (i : Int) by rw [Int.natCast_succ]; grind]
      exact this
theorem leg_inv {p : Int} {X : DI} (hp : 0 < p) (hX : OkL p X) (s : Wk) (g : Int) (h : InvK p X s) : InvK p X (legK p X s g) ∧ (∀ r, r ∈ s.met → r ∈ (legK p X s g).met) ∧ ∀ r, (s.room ≤ r ∧ r ≤ g ∨ g ≤ r ∧ r ≤ s.room) → r ∈ (legK p X s g).met := by
  have ht : sgnK s.room g = 1 ∨ sgnK s.room g = -1 := by unfold sgnK; split <;> omega
  obtain ⟨a, b, c⟩ := go_inv hp hX ht (g - s.room).natAbs s h
  refine ⟨a, b, fun r hr => ?_⟩
  have := c (r - s.room).natAbs (by omega)
  have e : s.room + sgnK s.room g * ((r - s.room).natAbs : Int) = r := by
    unfold sgnK
    split <;> omega
  rw [e] at this
  exact this
theorem keys_lohi {L : DI} {r : Int} (h : r ∈ L.map (·.1)) : loL L ≤ r ∧ r ≤ hiL L := ⟨(lo_le _ _).2.1 r h, (hi_ge _ _).2.1 r h⟩
/-- the walk of the shortest letters -/
theorem short_walk {p e : Int} {X : DI} (hp : 0 < p) (hp2 : p ≤ 1000) (hX : OkL p X) : (walkW p (shortK p e X).ls).1 = e ∧ (∀ r, getI (walkW p (shortK p e X).ls).2 r = getI X r) ∧ ∀ l ∈ (shortK p e X).ls, isLtr l := by
  have i0 := start_inv hp hX
  have e0 : shortK p e X = legK p X (legK p X (legK p X (startK p X) (bestW e X).2.1) (bestW e X).2.2) e := rfl
  generalize hs0 : startK p X = s0 at i0 e0
  have r0 : s0.room = 0 := by rw [← hs0]; rfl
  obtain ⟨i1, m1, c1⟩ := leg_inv hp hX s0 (bestW e X).2.1 i0
  have r1 := leg_room hX hp hp2 s0 (bestW e X).2.1
  generalize legK p X s0 (bestW e X).2.1 = s1 at *
  obtain ⟨i2, m2, c2⟩ := leg_inv hp hX s1 (bestW e X).2.2 i1
  have r2 := leg_room hX hp hp2 s1 (bestW e X).2.2
  generalize legK p X s1 (bestW e X).2.2 = s2 at *
  obtain ⟨i3, m3, c3⟩ := leg_inv hp hX s2 e i2
  have r3 := leg_room hX hp hp2 s2 e
  generalize legK p X s2 e = s3 at *
  rw [e0]
  refine ⟨i3.end_.trans r3, fun r => ?_, i3.ltr⟩
  rw [i3.get]
  split
  · rfl
  · rename_i hm
    refine Eq.symm (getI_no fun hk => hm (m3 r ?_))
    obtain ⟨k1, k2⟩ := keys_lohi hk
    have l0 : loL X ≤ 0 := (lo_le (X.map (fun q : Int × Int => q.1)) 0).1
    have h0 : 0 ≤ hiL X := (hi_ge (X.map (fun q : Int × Int => q.1)) 0).1
    unfold bestW at c1 c2 r1 r2
    dsimp only at c1 c2 r1 r2
    refine c2 r ?_
    split at r1
    · rename_i hc
      rw [if_pos hc] at r2 ⊢
      dsimp only at r1 r2 ⊢
      omega
    · rename_i hc
      rw [if_neg hc] at r2 ⊢
      dsimp only at r1 r2 ⊢
      omega
/-! ### lamps over -/
theorem emod_abs (a e : Int) : a % (e.natAbs : Int) = a % e := by
  rcases Int.natAbs_eq e with h | h
  · rw [← h]
  · conv => rhs; rw [h]
    rw [Int.emod_neg]
theorem same_cl {a b e : Int} : (a - b) % e = 0 ↔ b % (e.natAbs : Int) = a % (e.natAbs : Int) := by
  rw [← emod_abs (a - b), eq_comm (a := b % _), Int.emod_eq_emod_iff_emod_sub_eq_zero]
def Sv (e : Int) (L : DI) (r : Int) : Int := csL (fun k => decide ((r - k) % e = 0 ∧ 0 ≤ (r - k) / e)) L
theorem Sv_step {e : Int} (he : e ≠ 0) {L : DI} (hn : (L.map (·.1)).Nodup) (r : Int) : Sv e L r = Sv e L (r - e) + getI L r := by
  rw [← cs_get hn r]
  unfold Sv
  have sh : ∀ k : Int, r - e - k = (r - k) + e * (-1) := fun k => by omega
  rw [← cs_or]
  · refine cs_congr fun q _ => ?_
    rw [sh, Int.add_mul_emod_self_left, Int.add_mul_ediv_left _ _ he, Bool.eq_iff_iff, Bool.or_eq_true]
    simp only [decide_eq_true_eq]
    have h3 := Int.emod_add_mul_ediv (r - q.1) e
    constructor
    · rintro ⟨h1, h2⟩
      by_cases hz : (r - q.1) / e = 0
      · rw [h1, hz] at h3; simp at h3; exact .inr (by omega)
      · exact .inl ⟨h1, by omega⟩
    · rintro (⟨h1, h2⟩ | h)
      · exact ⟨h1, by omega⟩
      · rw [h]; simp
  · intro k h1 h2
    simp only [decide_eq_true_eq] at h1 h2
    rw [h2, sh, Int.sub_self, Int.add_mul_ediv_left _ _ he] at h1
    simp at h1
theorem over_dir {p t s0 : Int} (hp : 0 < p) (ht : t = 1 ∨ t = -1) {m : Nat} (hm : 0 < m) {L : DI} (hn : (L.map (·.1)).Nodup) (hk : ∀ q ∈ L, ∃ j : Nat, q.1 = s0 + j * t) :
    ∀ n : Nat, ((((List.range n).map fun (i : Nat) => s0 + (i : Int) * t).foldl (overF p L (t * m)) []).map (·.1)).Nodup ∧ ∀ r, getI (((List.range n).map fun (i : Nat) => s0 + (i : Int) * t).foldl (overF p L (t * m)) []) r = if ∃ i : Nat, i < n ∧ r = s0 + i * t then Sv (t * m) L r % p else 0
  | 0 => ⟨.nil, fun r => by rw [if_neg (by rintro ⟨i, h, _⟩; omega)]; rfl⟩
  | n + 1 => by
    obtain ⟨nd, ih⟩ := over_dir hp ht hm hn hk n
    rw [List.range_succ, List.map_append, List.foldl_append]
    generalize ((List.range n).map fun (i : Nat) => s0 + (i : Int) * t).foldl (overF p L (t * m)) [] = acc at nd ih
    simp only [List.map_cons, List.map_nil, List.foldl_cons, List.foldl_nil]
    have he : t * (m : Int) ≠ 0 := by rcases ht with rfl | rfl <;> omega
    have nin : ∀ i : Nat, i < n → s0 + (n : Int) * t ≠ s0 + i * t := fun i hi h => by rcases ht with rfl | rfl <;> omega
    have hv : (getI L (s0 + (n : Int) * t) + getI acc (s0 + (n : Int) * t - t * m)) % p = Sv (t * m) L (s0 + (n : Int) * t) % p := by
      rw [Sv_step he hn, ih]
      split
      · rw [Int.add_emod_emod, Int.add_comm]
      · rename_i hno
        have hlt : n < m := Classical.byContradiction fun z => hno ⟨n - m, by omega, by rcases ht with rfl | rfl <;> omega⟩
        have : Sv (t * m) L (s0 + (n : Int) * t - t * m) = 0 := by
          unfold Sv
          refine cs_none fun q hq => decide_eq_false ?_
          rintro ⟨h1, h2⟩
          obtain ⟨j, hj⟩ := hk q hq
          have h3 := Int.emod_add_mul_ediv (s0 + (n : Int) * t - t * m - q.1) (t * m)
          rw [h1] at h3
          generalize (s0 + (n : Int) * t - t * m - q.1) / (t * m) = c at h2 h3
          have h4 : 0 ≤ (m : Int) * c := Int.mul_nonneg (by omega) h2
          rcases ht with rfl | rfl
          · rw [Int.one_mul] at h3; omega
          · have : (-1 * (m : Int)) * c = -((m : Int) * c) := by grind
            omega
        rw [this, Int.add_zero, Int.zero_add]
    have hg : ∀ r, getI (overF p L (t * m) acc (s0 + (n : Int) * t)) r = if r = s0 + (n : Int) * t then Sv (t * m) L (s0 + (n : Int) * t) % p else getI acc r := by
      intro r
      unfold overF
      rw [hv]
      split
      · rename_i hz
        rw [hz]
        split
        · rename_i e; rw [e, ih, if_neg (by rintro ⟨i, hi, e2⟩; exact nin i hi e2)]
        · rfl
      · rw [get_put]
    refine ⟨(overF_ok nd).1, fun r => ?_⟩
    rw [hg, ih]
    by_cases h : r = s0 + (n : Int) * t
    · rw [if_pos h, if_pos ⟨n, by omega, h⟩, h]
    · rw [if_neg h]
      by_cases h2 : ∃ i : Nat, i < n ∧ r = s0 + i * t
      · obtain ⟨i, hi, e⟩ := h2
        rw [if_pos ⟨i, hi, e⟩, if_pos ⟨i, by omega, e⟩]
      · rw [if_neg h2, if_neg]
        rintro ⟨i, hi, e⟩
        by_cases hin : i = n
        · subst hin; exact h e
        · exact h2 ⟨i, by omega, e⟩
theorem over_get {p e : Int} (hp : 0 < p) (he : e ≠ 0) {L : DI} (h0 : L ≠ []) (hn : (L.map (·.1)).Nodup) (r : Int) : getI (overL p L e) r = if loK L ≤ r ∧ r ≤ hiK L then Sv e L r % p else 0 := by
  have hie : L.isEmpty = false := by cases L with
    | nil => exact absurd rfl h0
    | cons _ _ => rfl
  unfold overL roomsL
  rw [hie]
  rw [if_neg (by simp)]
  by_cases hpos : 0 < e
  · rw [if_pos hpos]
    have := (over_dir (p := p) (t := 1) (s0 := loK L) hp (.inl rfl) (m := e.toNat) (by omega) hn (fun q hq => ⟨(q.1 - loK L).toNat, by have := loK_le q hq; omega⟩) (hiK L + 1 - loK L).toNat).2 r
    rw [show (1 : Int) * (e.toNat : Int) = e by omega] at this
    rw [this]
    by_cases h : loK L ≤ r ∧ r ≤ hiK L
    · rw [if_pos h, if_pos ⟨(r - loK L).toNat, by omega, by omega⟩]
    · rw [if_neg h, if_neg]
      rintro ⟨i, hi, e⟩; omega
  · rw [if_neg hpos]
    have := (over_dir (p := p) (t := -1) (s0 := hiK L) hp (.inr rfl) (m := (-e).toNat) (by omega) hn (fun q hq => ⟨(hiK L - q.1).toNat, by have := hiK_ge q hq; omega⟩) (hiK L - (loK L - 1)).toNat).2 r
    rw [show (-1 : Int) * ((-e).toNat : Int) = e by omega] at this
    rw [this]
    by_cases h : loK L ≤ r ∧ r ≤ hiK L
    · rw [if_pos h, if_pos ⟨(hiK L - r).toNat, by omega, by omega⟩]
    · rw [if_neg h, if_neg]
      rintro ⟨i, hi, e⟩; omega
def Cl (m : Nat) (L : DI) (x : Int) : Int := csL (fun k => decide (k % (m : Int) = x % (m : Int))) L
theorem over_all {p e : Int} (hp : 0 < p) (he : e ≠ 0) {L : DI} (hn : (L.map (·.1)).Nodup) (hc : ∀ x, Mq p (Cl e.natAbs L x) 0) (r : Int) : getI (overL p L e) r = Sv e L r % p := by
  by_cases h0 : L = []
  · subst h0; exact Eq.symm (Int.zero_emod p)
  rw [over_get hp he h0 hn]
  split
  · rfl
  rename_i hr
  have key : ∀ q ∈ L, ¬ (loK L ≤ r ∧ r ≤ hiK L) := fun _ _ => hr
  -- before or after
  by_cases hs : (0 < e ∧ r < loK L) ∨ (e < 0 ∧ hiK L < r)
  · have : Sv e L r = 0 := by
      unfold Sv
      refine cs_none fun q hq => decide_eq_false ?_
      rintro ⟨h1, h2⟩
      have h3 := Int.emod_add_mul_ediv (r - q.1) e
      rw [h1] at h3
      have k1 := loK_le q hq
      have k2 := hiK_ge q hq
      rcases hs with ⟨a, b⟩ | ⟨a, b⟩
      · have := Int.mul_nonneg (Int.le_of_lt a) h2; omega
      · have := Int.mul_nonneg (show 0 ≤ -e by omega) h2
        have e3 : -e * ((r - q.1) / e) = -(e * ((r - q.1) / e)) := by grind
        omega
    rw [this]; simp
  · have : Sv e L r = Cl e.natAbs L r := by
      unfold Sv Cl
      refine cs_congr fun q hq => ?_
      rw [Bool.eq_iff_iff]
      simp only [decide_eq_true_eq]
      rw [← same_cl]
      refine ⟨fun h => h.1, fun h1 => ⟨h1, ?_⟩⟩
      have h3 := Int.emod_add_mul_ediv (r - q.1) e
      rw [h1] at h3
      have k1 := loK_le q hq
      have k2 := hiK_ge q hq
      refine Classical.byContradiction fun h2 => ?_
      by_cases hpos : 0 < e
      · have := Int.mul_neg_of_pos_of_neg hpos (show (r - q.1) / e < 0 by omega); omega
      · have := Int.mul_pos_of_neg_of_neg (show e < 0 by omega) (show (r - q.1) / e < 0 by omega); omega
    rw [this]
    have := mq_iff.mp (hc r)
    rw [this]; simp
theorem over_rec {p e : Int} (hp : 0 < p) (he : e ≠ 0) {L : DI} (hn : (L.map (·.1)).Nodup) (hc : ∀ x, Mq p (Cl e.natAbs L x) 0) (r : Int) : Mq p (getI (overL p L e) r) (getI (overL p L e) (r - e) + getI L r) := by
  rw [over_all hp he hn hc, over_all hp he hn hc]
  refine (Mq.mod p _).trans ?_
  rw [Sv_step he hn]
  exact (Mq.mod p _).symm.add (Mq.rf _ _)
/-! ### folds -/
theorem Cl_eq {m : Nat} {L : DI} {x y : Int} (h : x % (m : Int) = y % (m : Int)) : Cl m L x = Cl m L y := by unfold Cl; rw [h]
theorem foldF_get {p : Int} (hp : 0 < p) {m : Nat} (hm : 0 < m) : ∀ (L : DI) (acc : List Int), acc.length = m → (∀ j, 0 ≤ acc.getD j 0 ∧ acc.getD j 0 < p) →
    (∀ j, 0 ≤ (L.foldl (foldF p m) acc).getD j 0 ∧ (L.foldl (foldF p m) acc).getD j 0 < p) ∧ ∀ j : Nat, j < m → Mq p ((L.foldl (foldF p m) acc).getD j 0) (acc.getD j 0 + csL (fun k => decide (k % (m : Int) = (j : Int))) L)
  | [], acc, _, h => ⟨h, fun j _ => Mq.of (by rw [cs_nil]; simp)⟩
  | q :: L, acc, hl, h => by
    have h0 := Int.emod_nonneg q.1 (show (m : Int) ≠ 0 by omega)
    have h1 := Int.emod_lt_of_pos q.1 (show 0 < (m : Int) by omega)
    have hg : ∀ j : Nat, (foldF p m acc q).getD j 0 = if (j : Int) = q.1 % (m : Int) then (acc.getD j 0 + q.2) % p else acc.getD j 0 := by
      intro j
      unfold foldF
      rw [List.getD_eq_getElem?_getD, List.getElem?_set]
      by_cases e : (q.1 % (m : Int)).toNat = j
      · rw [if_pos e, if_pos (by rw [hl]; omega), if_pos (by omega)]
        rw [e]; rfl
      · rw [if_neg e, if_neg (by omega), List.getD_eq_getElem?_getD]
    obtain ⟨a, b⟩ := foldF_get hp hm L (foldF p m acc q) (by unfold foldF; rw [List.length_set, hl]) fun j => by
      rw [hg]
      split
      · exact ⟨Int.emod_nonneg _ (by omega), Int.emod_lt_of_pos _ hp⟩
      · exact h j
    refine ⟨a, fun j hj => (b j hj).trans ?_⟩
    rw [hg, cs_cons]
    by_cases e : (j : Int) = q.1 % (m : Int)
    · rw [if_pos e, if_pos (by simpa using e.symm)]
      exact ((Mq.mod p _).add (Mq.rf _ _)).trans (Mq.of (by omega))
    · rw [if_neg e, if_neg (by simpa using fun z => e z.symm)]
      exact Mq.of (by omega)
theorem foldV_zero {p : Int} (hp : 0 < p) {m : Nat} (hm : 0 < m) (L : DI) : foldV p m L = List.replicate m 0 ↔ ∀ x, Mq p (Cl m L x) 0 := by
  have hz : ∀ j, (List.replicate ((m : Int)).toNat (0 : Int)).getD j 0 = 0 := fun j => by
    rw [List.getD_eq_getElem?_getD, List.getElem?_replicate]; split <;> rfl
  obtain ⟨a, b⟩ := foldF_get hp hm L (List.replicate ((m : Int)).toNat 0) (by simp) fun j => by rw [hz]; omega
  have hlen : (foldV p m L).length = m := by unfold foldV; rw [fold_len]; simp
  have hb : ∀ j : Nat, j < m → Mq p ((foldV p m L).getD j 0) (Cl m L j) := fun j hj => by
    have := b j hj
    rw [hz, Int.zero_add] at this
    unfold Cl
    rw [Int.emod_eq_of_lt (a := (j : Int)) (by omega) (by omega)]
    exact this
  constructor
  · intro h x
    have h0 := Int.emod_nonneg x (show (m : Int) ≠ 0 by omega)
    have h1 := Int.emod_lt_of_pos x (show 0 < (m : Int) by omega)
    have := hb (x % (m : Int)).toNat (by omega)
    rw [h, List.getD_eq_getElem?_getD, List.getElem?_replicate] at this
    rw [Cl_eq (x := x) (y := ((x % (m : Int)).toNat : Int)) (by rw [Int.toNat_of_nonneg h0, Int.emod_emod])]
    refine this.symm.trans ?_
    split <;> exact Mq.rf _ _
  · intro h
    refine List.ext_getElem (by rw [hlen, List.length_replicate]) fun j h1 h2 => ?_
    rw [hlen] at h1
    rw [List.getElem_replicate]
    have e := (hb j h1).trans (h j)
    have := (Mq.eq e (a j).1 (a j).2 (by omega) (by omega))
    rw [List.getD_eq_getElem?_getD, List.getElem?_eq_getElem (by rw [hlen]; exact h1)] at this
    exact this
theorem Cl_add {p by_ : Int} {m : Nat} {L : DI} (hn : (L.map (·.1)).Nodup) (x : Int) : Mq p (Cl m (addL p L (movL L by_) (-1)) x) (Cl m L x - Cl m L (x - by_)) := by
  refine (cs_addL _ hn).trans (Mq.of ?_)
  rw [cs_mov]
  have : csL (fun r => decide ((r + by_) % (m : Int) = x % (m : Int))) L = Cl m L (x - by_) := by
    unfold Cl
    refine cs_congr fun q _ => ?_
    rw [Bool.eq_iff_iff]
    simp only [decide_eq_true_eq]
    rw [Int.emod_eq_emod_iff_emod_sub_eq_zero, Int.emod_eq_emod_iff_emod_sub_eq_zero, show q.1 + by_ - x = q.1 - (x - by_) by omega]
  rw [this]
  unfold Cl
  omega
theorem miss_zero {p by_ : Int} {m : Nat} {L : DI} (hn : (L.map (·.1)).Nodup) : (∀ x, Mq p (Cl m (addL p L (movL L by_) (-1)) x) 0) ↔ ∀ x, Mq p (Cl m L x) (Cl m L (x - by_)) := by
  constructor
  · intro h x
    obtain ⟨k, hk⟩ := (Cl_add (p := p) (by_ := by_) (m := m) hn x).symm.trans (h x)
    exact ⟨k, by grind⟩
  · intro h x
    refine (Cl_add (p := p) (by_ := by_) (m := m) hn x).trans ?_
    obtain ⟨k, hk⟩ := h x
    exact ⟨k, by grind⟩
theorem rot_iff (f : Nat → Int) {m b : Nat} (hb : b ≤ m) : ((List.range m).map f = ((List.range m).map f).drop b ++ ((List.range m).map f).take b) ↔ ∀ j, j < m → f j = f (if j + b < m then j + b else j + b - m) := by
  have hl : ∀ j, j < m → (((List.range m).map f).drop b ++ ((List.range m).map f).take b)[j]? = some (f (if j + b < m then j + b else j + b - m)) := by
    intro j hj
    rw [List.getElem?_append]
    simp only [List.length_drop, List.length_map, List.length_range]
    split
    · rename_i h
      rw [if_pos (by omega), List.getElem?_drop, List.getElem?_map, List.getElem?_range (by omega)]
      rw [Nat.add_comm]; rfl
    · rename_i h
      rw [if_neg (by omega), List.getElem?_take, if_pos (by omega), List.getElem?_map, List.getElem?_range (by omega)]
      rw [show j - (m - b) = j + b - m by omega]; rfl
  have hr : ∀ j, j < m → ((List.range m).map f)[j]? = some (f j) := fun j hj => by
    rw [List.getElem?_map, List.getElem?_range hj]; rfl
  constructor
  · intro h j hj
    have h1 := hl j hj
    rw [← h, hr j hj] at h1
    exact Option.some.inj h1
  · intro h
    refine List.ext_getElem? fun j => ?_
    by_cases hj : j < m
    · rw [hr j hj, hl j hj, h j hj]
    · rw [List.getElem?_eq_none (by simp; omega), List.getElem?_eq_none (by simp; omega)]
theorem has_iff {p e n : Int} (hp : 0 < p) (he : e ≠ 0) (n1 : 1 ≤ n) (hd : e % n = 0) {W : DI} (hn : (W.map (·.1)).Nodup) : hasL p e (FL W) n = true ↔ ∀ x, Mq p (Cl e.natAbs W x) (Cl e.natAbs W (x - e / n)) := by
  have hm : 0 < e.natAbs := by omega
  have hlf : lfold p e.natAbs (FL W) = (List.range e.natAbs).map fun (j : Nat) => Cl e.natAbs W j % p := by
    unfold lfold
    refine List.map_congr_left fun j hj => ?_
    have := List.mem_range.mp hj
    unfold Cl
    rw [cs_FL _ hn, Int.emod_eq_of_lt (a := (j : Int)) (by omega) (by omega)]
  unfold hasL
  rw [if_neg he, if_neg (by simpa using hd), hlf, decide_eq_true_eq]
  have hb : e.natAbs / n.toNat ≤ e.natAbs := Nat.div_le_self _ _
  rw [rot_iff _ hb]
  have hq : e / n = ((e.natAbs / n.toNat : Nat) : Int) ∨ e / n = -((e.natAbs / n.toNat : Nat) : Int) := by
    have h3 := Int.emod_add_mul_ediv e n
    rw [hd] at h3
    have h4 : n.toNat * (e / n).natAbs = e.natAbs := by
      rw [show n.toNat = n.natAbs by omega, ← Int.natAbs_mul]; congr 1; omega
    have h5 : e.natAbs / n.toNat = (e / n).natAbs := by rw [← h4, Nat.mul_div_cancel_left _ (by omega)]
    rw [h5]; omega
  generalize e / n = y at hq
  generalize e.natAbs / n.toNat = b at *
  generalize e.natAbs = m at *
  have hx : (∀ j, j < m → Cl m W ((j : Nat) : Int) % p = Cl m W ((if j + b < m then j + b else j + b - m : Nat) : Int) % p) ↔ ∀ x, Mq p (Cl m W x) (Cl m W (x + b)) := by
    have hj2 : ∀ j, j < m → Cl m W ((if j + b < m then j + b else j + b - m : Nat) : Int) = Cl m W ((j : Int) + b) := by
      intro j hj
      split
      · rw [Int.natCast_add]
      · refine Cl_eq ?_
        rw [show ((j + b - m : Nat) : Int) = (j : Int) + b + (m : Int) * (-1) by omega, Int.add_mul_emod_self_left]
    constructor
    · intro h x
      have h0 := Int.emod_nonneg x (show (m : Int) ≠ 0 by omega)
      have h1 := Int.emod_lt_of_pos x (show 0 < (m : Int) by omega)
      have := h (x % (m : Int)).toNat (by omega)
      rw [hj2 _ (by omega), Int.toNat_of_nonneg h0, Cl_eq (x := x % (m : Int)) (y := x) (by rw [Int.emod_emod]), Cl_eq (x := x % (m : Int) + b) (y := x + b) (by rw [Int.emod_add_emod])] at this
      exact mq_iff.mpr this
    · intro h j hj
      rw [hj2 j hj]
      exact mq_iff.mp (h _)
  rw [hx]
  rcases hq with rfl | rfl
  · constructor
    · intro h x; have := h (x - b); rw [Int.sub_add_cancel] at this; exact this.symm
    · intro h x; have := h (x + b); rw [Int.add_sub_cancel] at this; exact this.symm
  · constructor
    · intro h x; rw [Int.sub_neg]; exact h x
    · intro h x; have := h x; rw [Int.sub_neg] at this; exact this
/-! ### a form done n times -/
def sig (f : Nat → Int) : Nat → Int
  | 0 => 0
  | n + 1 => sig f n + f n
theorem sig_add (f : Nat → Int) (a : Nat) : ∀ b : Nat, sig f (a + b) = sig f a + sig (fun t => f (a + t)) b
  | 0 => by show sig f a = sig f a + 0; omega
  | b + 1 => by
    show sig f (a + b) + f (a + b) = sig f a + (sig (fun t => f (a + t)) b + f (a + b))
    rw [sig_add f a b]; omega
theorem sig_mq {p : Int} {f g : Nat → Int} (h : ∀ t, Mq p (f t) (g t)) : ∀ n : Nat, Mq p (sig f n) (sig g n)
  | 0 => Mq.rf _ _
  | n + 1 => (sig_mq h n).add (h n)
theorem sig_congr {f g : Nat → Int} (h : ∀ t, f t = g t) (n : Nat) : sig f n = sig g n := by rw [show f = g from funext h]
theorem sig_tel (x : Int → Int) (r b : Int) : ∀ n : Nat, sig (fun t => x (r - t * b)) n - sig (fun t => x (r - b - t * b)) n = x r - x (r - n * b)
  | 0 => by show (0 : Int) - 0 = _; simp
  | n + 1 => by
    have ih := sig_tel x r b n
    show (sig (fun t => x (r - t * b)) n + x (r - n * b)) - (sig (fun t => x (r - b - t * b)) n + x (r - b - n * b)) = _
    have : r - b - (n : Int) * b = r - ((n + 1 : Nat) : Int) * b := by rw [Int.natCast_succ]; grind
    rw [this]; omega
theorem sig_comp {p : Int} {P s : Int → Int} {b : Int} {m : Nat} (h : ∀ r, Mq p (P r) (sig (fun t => s (r - t * b)) m)) (r : Int) : ∀ n : Nat, Mq p (sig (fun u => P (r - u * (m * b))) n) (sig (fun t => s (r - t * b)) (n * m))
  | 0 => by rw [Nat.zero_mul]; exact Mq.rf _ _
  | n + 1 => by
    rw [Nat.succ_mul, sig_add _ (n * m) m]
    show Mq p (sig (fun u => P (r - u * (m * b))) n + P (r - n * (m * b))) _
    refine (sig_comp h r n).add ((h _).trans (Mq.of (sig_congr (fun t => ?_) m)))
    congr 1
    rw [Int.natCast_add, Int.natCast_mul]; grind
theorem tmF_cs (P : Int → Bool) {p e t : Int} : ∀ (F acc : DI), (acc.map (·.1)).Nodup → Mq p (csL P (F.foldl (tmF p e t) acc)) (csL P acc + csL (fun k => P (k + t * e)) F)
  | [], acc, _ => Mq.of (by rw [cs_nil]; show csL P acc = _; omega)
  | q :: F, acc, hn => by
    have h2 : Mq p (csL P (tmF p e t acc q)) _ := cs_putq P (p := p) (k := q.1 + t * e) (v := q.2) hn
    refine (tmF_cs P F (tmF p e t acc q) (nodup_put hn)).trans ((h2.add (Mq.rf _ _)).trans (Mq.of ?_))
    rw [cs_cons]; omega
theorem tmF_in {p e t : Int} (hp : 0 < p) : ∀ (F acc : DI), (∀ q ∈ acc, 0 ≤ q.2 ∧ q.2 < p) → ∀ q ∈ F.foldl (tmF p e t) acc, 0 ≤ q.2 ∧ q.2 < p
  | [], _, h => h
  | x :: F, acc, h => tmF_in hp F (tmF p e t acc x) fun q hq => by
    rcases mem_putI hq with z | z
    · exact h q z
    · rw [z]; exact ⟨Int.emod_nonneg _ (by omega), Int.emod_lt_of_pos _ hp⟩
theorem tm_all {p e : Int} (hp : 0 < p) (F : DI) : ∀ n : Nat, ((tmL p e F n).map (·.1)).Nodup ∧ (∀ q ∈ tmL p e F n, 0 ≤ q.2 ∧ q.2 < p) ∧ ∀ P : Int → Bool, Mq p (csL P (tmL p e F n)) (sig (fun t => csL (fun k => P (k + (t : Int) * e)) F) n)
  | 0 => ⟨.nil, (fun q hq => by cases hq), fun P => Mq.rf _ _⟩
  | n + 1 => by
    obtain ⟨a, b, c⟩ := tm_all (e := e) hp F n
    have e1 : tmL p e F (n + 1) = F.foldl (tmF p e n) (tmL p e F n) := by unfold tmL; rw [List.range_succ, List.foldl_append]; rfl
    rw [e1]
    refine ⟨(tmF_ok F _ a).1, tmF_in hp F _ b, fun P => ?_⟩
    exact (tmF_cs P F _ a).trans ((c P).add (Mq.rf _ _))
theorem tm_get {p e : Int} (hp : 0 < p) {F : DI} (hF : (F.map (·.1)).Nodup) (n : Nat) (r : Int) : Mq p (getI (tmL p e F n) r) (sig (fun t => getI F (r - t * e)) n) := by
  obtain ⟨a, b, c⟩ := tm_all (e := e) hp F n
  rw [← cs_get a]
  refine (c _).trans (Mq.of (sig_congr (fun t => ?_) n))
  rw [← cs_get hF]
  refine cs_congr fun q _ => ?_
  rw [Bool.eq_iff_iff]; simp only [decide_eq_true_eq]; omega
theorem supp (L : DI) : ∃ N : Nat, ∀ r : Int, N < r.natAbs → getI L r = 0 := by
  induction L with
  | nil => exact ⟨0, fun _ _ => rfl⟩
  | cons q L ih =>
    obtain ⟨N, h⟩ := ih
    refine ⟨N + q.1.natAbs, fun r hr => ?_⟩
    rw [getI_cons, if_neg (by intro e; subst e; omega), h r (by omega)]
theorem drain {p b : Int} {D : Int → Int} (hb : b ≠ 0) (h : ∀ r, Mq p (D r) (D (r - b))) {N : Nat} (hN : ∀ r : Int, N < r.natAbs → D r = 0) (r : Int) : Mq p (D r) 0 := by
  have it : ∀ k : Nat, Mq p (D r) (D (r - k * b)) := by
    intro k
    induction k with
    | zero => exact Mq.of (by simp)
    | succ k ih =>
      refine (ih.trans (h _)).trans (Mq.of ?_)
      congr 1
      rw [Int.natCast_succ]; grind
  have := it (N + r.natAbs + 1)
  rw [hN (r - ((N + r.natAbs + 1 : Nat) : Int) * b)] at this
  · exact this
  · have h1 : (((N + r.natAbs + 1 : Nat) : Int) * b).natAbs = (N + r.natAbs + 1) * b.natAbs := by rw [Int.natAbs_mul]; rfl
    have h2 : (N + r.natAbs + 1) * 1 ≤ (N + r.natAbs + 1) * b.natAbs := Nat.mul_le_mul_left _ (by omega)
    omega
/-! ### parts -/
theorem pairD_inj : ∀ {F G : DI}, F.map pairD = G.map pairD → F = G
  | [], [], _ => rfl
  | [], _ :: _, h => by cases h
  | _ :: _, [], h => by cases h
  | q :: F, r :: G, h => by
    rw [List.map_cons, List.map_cons] at h
    obtain ⟨h1, h2⟩ := List.cons.inj h
    have h1 : D.tup [.int q.1, .int q.2] = D.tup [.int r.1, .int r.2] := h1
    injection h1 with h3
    obtain ⟨h4, h5⟩ := List.cons.inj h3
    obtain ⟨h5, _⟩ := List.cons.inj h5
    injection h4 with h4
    injection h5 with h5
    rw [pairD_inj h2, show q = r from Prod.ext h4 h5]
theorem walk_nd (p : Int) (ls : List Int) : ((walkW p ls).2.map (·.1)).Nodup := (walk_ok p ls).1
/-- what times means, end other than 0 -/
theorem times_iff {p e n e0 : Int} (hp : 0 < p) (he : e ≠ 0) (n1 : 1 ≤ n) {W0 W : DI} (hW : ∀ r, 0 ≤ getI W0 r ∧ getI W0 r < p) : timesD p e (FL W) n = formD e0 (FL W0) ↔ n * e = e0 ∧ ∀ r, Mq p (getI W0 r) (sig (fun t => getI W (r - t * e)) n.toNat) := by
  have e1 : timesD p e (FL W) n = .tup [.int (n * e), formL (tmL p e (FL W) n.toNat)] := if_neg he
  rw [e1, formL_FL]
  have ht := tm_get (p := p) (e := e) hp (FL_nd W) n.toNat
  have ht : ∀ r, Mq p (getI (tmL p e (FL W) n.toNat) r) (sig (fun t => getI W (r - t * e)) n.toNat) := fun r => (ht r).trans (Mq.of (sig_congr (fun t => FL_get W _) _))
  have hin : ∀ r, 0 ≤ getI (tmL p e (FL W) n.toNat) r ∧ getI (tmL p e (FL W) n.toNat) r < p := getI_small hp (tm_all hp (FL W) n.toNat).2.1
  constructor
  · intro h
    have h : D.tup [.int (n * e), .tup ((FL (tmL p e (FL W) n.toNat)).map pairD)] = D.tup [.int e0, .tup ((FL W0).map pairD)] := h
    injection h with h
    obtain ⟨h1, h2⟩ := List.cons.inj h
    obtain ⟨h2, _⟩ := List.cons.inj h2
    injection h1 with h1
    injection h2 with h2
    have h3 := pairD_inj h2
    refine ⟨h1, fun r => ?_⟩
    rw [← FL_get W0, ← h3, FL_get]
    exact ht r
  · rintro ⟨h1, h2⟩
    have : FL (tmL p e (FL W) n.toNat) = FL W0 := FL_ext fun r => Mq.eq ((ht r).trans (h2 r).symm) (hin r).1 (hin r).2 (hW r).1 (hW r).2
    rw [this, h1]; rfl
theorem getI_val (f : Int → Int) (k : Int) : ∀ L : DI, getI (L.map fun q => (q.1, f q.2)) k = if k ∈ L.map (·.1) then f (getI L k) else 0
  | [] => rfl
  | q :: L => by
    rw [List.map_cons, getI_cons, getI_cons, getI_val f k L]
    by_cases h : q.1 = k
    · rw [if_pos h, if_pos h, if_pos (by rw [List.map_cons, h]; exact List.mem_cons_self)]
    · rw [if_neg h, if_neg h]
      by_cases h2 : k ∈ L.map (·.1)
      · rw [if_pos h2, if_pos (show k ∈ (q :: L).map (·.1) from List.mem_cons_of_mem _ h2)]
      · rw [if_neg h2, if_neg (by rw [List.map_cons, List.mem_cons]; rintro (z | z); exact h z.symm; exact h2 z)]
/-- end 0: a form done n times -/
theorem times0 {p n : Int} {W X : DI} (hW : ∀ r, getI X r ≠ 0 ↔ getI W r ≠ 0) (h : ∀ r, getI W r ≠ 0 → (getI X r * n) % p = getI W r) : timesD p 0 (FL X) n = formD 0 (FL W) := by
  have e1 : timesD p 0 (FL X) n = formD 0 (((FL X).map fun q => (q.1, (q.2 * n) % p)).filter fun q => decide (q.2 ≠ 0)) := if_pos rfl
  rw [e1]
  congr 1
  have ks : (FL X).map (·.1) = (FL W).map (·.1) := pw_eq (FL_pw X) (FL_pw W) fun k => by rw [FL_key, FL_key, hW]
  have eX : FL X = ((FL W).map (·.1)).map fun r => (r, getI X r) := by
    rw [← ks, List.map_map]
    conv => lhs; rw [← List.map_id (FL X)]
    refine List.map_congr_left fun q hq => ?_
    exact Prod.ext rfl (FL_mem hq).1
  rw [eX, List.map_map, List.map_map]
  have : (FL W).map (((fun q : Int × Int => (q.1, (q.2 * n) % p)) ∘ fun r => (r, getI X r)) ∘ fun q => q.1) = FL W := by
    conv => rhs; rw [← List.map_id (FL W)]
    refine List.map_congr_left fun q hq => ?_
    obtain ⟨h1, h2⟩ := FL_mem hq
    refine Prod.ext rfl ?_
    show (getI X q.1 * n) % p = q.2
    rw [h _ (h1 ▸ h2)]; exact h1.symm
  rw [this]
  exact List.filter_eq_self.mpr fun q hq => by simpa using (FL_mem hq).2
theorem mem_FL {W : DI} (hn : (W.map (·.1)).Nodup) {q : Int × Int} : q ∈ FL W ↔ q ∈ nz W := by
  constructor
  · intro h
    obtain ⟨h1, h2⟩ := FL_mem h
    have h3 : q.1 ∈ W.map (·.1) := getI_key (h1 ▸ h2)
    obtain ⟨x, hx, e⟩ := List.mem_map.mp h3
    have := getI_mem hn hx
    have e2 : x = q := Prod.ext e (by rw [h1, ← e, this])
    exact List.mem_filter.mpr ⟨e2 ▸ hx, by simpa using h2⟩
  · intro h
    obtain ⟨h1, h2⟩ := List.mem_filter.mp h
    have h2 : q.2 ≠ 0 := by simpa using h2
    have e := getI_mem hn h1
    unfold FL
    refine List.mem_map.mpr ⟨q.1, List.mem_filter.mpr ⟨mem_sortU.mpr (List.mem_map.mpr ⟨q, h1, rfl⟩), by rw [e]; simpa using h2⟩, by rw [e]⟩
theorem all_FL {W : DI} (hn : (W.map (·.1)).Nodup) (f : Int × Int → Bool) : (FL W).all f = (nz W).all f := by
  rw [Bool.eq_iff_iff, List.all_eq_true, List.all_eq_true]
  exact ⟨fun h q hq => h q ((mem_FL hn).mpr hq), fun h q hq => h q ((mem_FL hn).mp hq)⟩
theorem best_inB {L : DI} {e : Int} {B : Nat} (h : ∀ q ∈ L, q.1.natAbs ≤ B) (he : e.natAbs ≤ B) : (bestW e L).2.1.natAbs ≤ B ∧ (bestW e L).2.2.natAbs ≤ B := by
  have hm : ∀ y ∈ L.map (fun q : Int × Int => q.1), y.natAbs ≤ B := fun y hy => by
    obtain ⟨q, hq, rfl⟩ := List.mem_map.mp hy
    exact h q hq
  obtain ⟨a1, a2, a3⟩ := lo_le (L.map (fun q : Int × Int => q.1)) 0
  obtain ⟨b1, b2, b3⟩ := hi_ge (L.map (fun q : Int × Int => q.1)) 0
  have h1 : (loL L).natAbs ≤ B := by
    unfold loL
    rcases a3 with z | z
    · rw [z]; simp
    · exact hm _ z
  have h2 : (hiL L).natAbs ≤ B := by
    unfold hiL
    rcases b3 with z | z
    · rw [z]; simp
    · exact hm _ z
  unfold bestW
  dsimp only
  split <;> dsimp only <;> omega
theorem short_len {p e : Int} {X : DI} (hp : 0 < p) (hp2 : p ≤ 1000) (hX : OkL p X) {B : Nat} (h : ∀ q ∈ X, q.1.natAbs ≤ B) (he : e.natAbs ≤ B) : (shortK p e X).ls.length ≤ 1000 + 1001 * (5 * B) := by
  obtain ⟨g1, g2⟩ := best_inB h he
  have e0 : shortK p e X = legK p X (legK p X (legK p X (startK p X) (bestW e X).2.1) (bestW e X).2.2) e := rfl
  rw [e0]
  have l0 : (startK p X).ls.length ≤ 1000 := turn_len (hX.get hp 0).1 (hX.get hp 0).2 hp2
  have r0 : (startK p X).room = 0 := rfl
  have leg : ∀ (s : Wk) (g : Int), (legK p X s g).ls.length ≤ s.ls.length + 1001 * (g - s.room).natAbs := fun s g => (go_len hX hp hp2 _ _ s).1
  have room : ∀ (s : Wk) (g : Int), (legK p X s g).room = g := fun s g => leg_room hX hp hp2 s g
  have a1 := leg (startK p X) (bestW e X).2.1
  have a2 := leg (legK p X (startK p X) (bestW e X).2.1) (bestW e X).2.2
  have a3 := leg (legK p X (legK p X (startK p X) (bestW e X).2.1) (bestW e X).2.2) e
  rw [room] at a2 a3
  rw [r0] at a1
  omega
/-- what is right of a part -/
structure PartR (p : Int) (w : Int × DI) (n : Int) (qs : List Int) : Prop where
  has : hasL p w.1 (FL w.2) n = true
  ltr : ∀ l ∈ qs, isLtr l
  len : qs.length ≤ 700000
  end_ : (walkW p qs).1 * n = w.1
  times : timesD p (walkW p qs).1 (FL (walkW p qs).2) n = formD w.1 (FL w.2)
  fl : (FL (walkW p qs).2).length ≤ 1000
theorem part_right {p n : Int} {ls : List Int} (hp2 : 2 ≤ p) (hp3 : p ≤ 1000) (h : ∀ l ∈ ls, isLtr l) (hl : ls.length ≤ 60) (n1 : 1 ≤ n) :
    (partL p ls n = none → hasL p (walkW p ls).1 (FL (walkW p ls).2) n = false) ∧ ∀ qs, partL p ls n = some qs → PartR p (walkW p ls) n qs := by
  have hp : 0 < p := by omega
  obtain ⟨s1, s2⟩ := walk_small hp h
  have nd := walk_nd p ls
  have hwl := (walk_ok p ls).2
  have hgcd : commL n p = ((Nat.gcd n.natAbs p.natAbs : Nat) : Int) := commL_gcd (by omega) (by omega) (by omega)
  have hW : ∀ r, 0 ≤ getI (walkW p ls).2 r ∧ getI (walkW p ls).2 r < p := getI_small hp fun q hq => (s2 q hq).2
  unfold partL
  generalize walkW p ls = w at *
  obtain ⟨e, W⟩ := w
  dsimp only at *
  have hnz : OkL p (nz W) := nz_ok nd fun q hq => (s2 q hq).2
  have hnk : ∀ q ∈ nz W, q.1.natAbs ≤ 60 := fun q hq => by have := (s2 q (List.mem_filter.mp hq).1).1; omega
  have hnl : (nz W).length ≤ 60 := by have : (nz W).length ≤ W.length := List.length_filter_le _ _; omega
  by_cases he : e = 0
  · subst he
    rw [if_pos rfl]
    have hh : hasL p 0 (FL W) n = divOk p (nz W) n := by
      have e1 : hasL p 0 (FL W) n = (FL W).all fun q => decide (q.2 % commL n p = 0) := if_pos rfl
      rw [e1, all_FL nd, hgcd]; rfl
    by_cases hd : divOk p (nz W) n = true
    · rw [if_pos hd]
      refine ⟨(fun h => by cases h), fun qs hq => ?_⟩
      obtain rfl := Option.some.inj hq
      have hX : OkL p (divM p (nz W) n) := divM_ok hp hnz hd
      obtain ⟨w1, w2, w3⟩ := short_walk (e := 0) hp hp3 hX
      have hlen := short_len (e := 0) hp hp3 hX (divM_in (p := p) (n := n) hnk) (by simp)
      have hFL : FL (walkW p (shortK p 0 (divM p (nz W) n)).ls).2 = FL (divM p (nz W) n) := FL_ext w2
      have hval : ∀ r, getI W r ≠ 0 → getI (divM p (nz W) n) r ≠ 0 ∧ (getI (divM p (nz W) n) r * n) % p = getI W r := by
        intro r hr
        have hr2 : getI (nz W) r ≠ 0 := by rw [getI_nz nd]; exact hr
        have hk := getI_key hr2
        have hg : getI (divM p (nz W) n) r = solve p n (getI W r) := by
          unfold divM
          rw [getI_val (fun v => solve p n v), if_pos hk, getI_nz nd]
        obtain ⟨x, hx, e⟩ := List.mem_map.mp hk
        have hx2 : x.2 = getI W r := by rw [← getI_nz nd, ← e, getI_mem (nodup_nz nd) hx]
        have hc : x.2 % ((Nat.gcd n.natAbs p.natAbs : Nat) : Int) = 0 := of_decide_eq_true (List.all_eq_true.mp hd x hx)
        rw [hx2] at hc
        obtain ⟨q, hq⟩ := sols_ne (n := n) hp (hW r).1 (hW r).2 hc
        obtain ⟨t0, t1, t2⟩ := sols_mem (p := p) (n := n) (c := getI W r) (s := solve p n (getI W r)) (by rw [hq]; exact List.mem_cons_self)
        rw [hg]
        refine ⟨fun z => ?_, by rw [Int.mul_comm]; exact t2⟩
        rw [z] at t2
        simp at t2
        omega
      refine ⟨hh.trans hd, w3, by omega, by rw [w1]; simp, ?_, ?_⟩
      · rw [w1, hFL]
        refine times0 (fun r => ⟨fun hx hw => ?_, fun hw => (hval r hw).1⟩) fun r hr => (hval r hr).2
        apply hx
        unfold divM
        rw [getI_val (fun v => solve p n v), if_neg]
        intro hk
        obtain ⟨x, hx, e⟩ := List.mem_map.mp hk
        have h2 : x.2 ≠ 0 := by simpa using (List.mem_filter.mp hx).2
        have h3 := getI_mem (nodup_nz nd) hx
        rw [getI_nz nd, e, hw] at h3
        exact h2 h3.symm
      · rw [hFL]
        have := FL_len (divM p (nz W) n)
        have e3 : (divM p (nz W) n).length = (nz W).length := by unfold divM; rw [List.length_map]
        omega
    · rw [if_neg hd]
      exact ⟨fun _ => by rw [hh]; simpa using hd, fun qs hq => by cases hq⟩
  · rw [if_neg he]
    by_cases hm : e % n = 0
    · rw [if_neg (by simpa using hm)]
      have hen : e / n * n = e := by have := Int.emod_add_mul_ediv e n; rw [Int.mul_comm]; omega
      have hby : (e / n).natAbs ≤ 60 := by
        have h1 : (e / n).natAbs * n.natAbs = e.natAbs := by rw [← Int.natAbs_mul, hen]
        have h2 : (e / n).natAbs * 1 ≤ (e / n).natAbs * n.natAbs := Nat.mul_le_mul_left _ (by omega)
        omega
      have hby0 : e / n ≠ 0 := fun z => he (by rw [← hen, z]; simp)
      generalize hb : e / n = by_ at *
      have hc2 : ∀ x, Cl e.natAbs (nz W) x = Cl e.natAbs W x := fun x => cs_nz _ W
      have hi : hasL p e (FL W) n = true ↔ ∀ x, Mq p (Cl e.natAbs W x) (Cl e.natAbs W (x - by_)) := by rw [← hb]; exact has_iff hp he n1 hm nd
      have hmz := miss_zero (p := p) (by_ := by_) (m := e.natAbs) hnz.nd
      have hfz := foldV_zero hp (m := e.natAbs) (by omega) (addL p (nz W) (movL (nz W) by_) (-1))
      obtain ⟨o1, o2, o3⟩ := addL_ok (p := p) (c := -1) hp (B := 120) (L1 := nz W) (L2 := movL (nz W) by_) hnz.nd (fun q hq => by have := hnk q hq; have := hnz.v q hq; omega) fun q hq => by
        obtain ⟨x, hx, rfl⟩ := List.mem_map.mp hq
        have := hnk x hx
        show (x.1 + by_).natAbs ≤ 120
        omega
      have hB : ∀ r, Mq p (getI (addL p (nz W) (movL (nz W) by_) (-1)) r) (getI W r - getI W (r - by_)) := by
        intro r
        rw [← cs_get o1.nd]
        refine (cs_addL _ hnz.nd).trans (Mq.of ?_)
        rw [cs_get hnz.nd, cs_mov, getI_nz nd]
        have : csL (fun k => decide (k + by_ = r)) (nz W) = getI W (r - by_) := by
          rw [← getI_nz nd, ← cs_get hnz.nd]
          refine cs_congr fun q _ => ?_
          rw [Bool.eq_iff_iff]; simp only [decide_eq_true_eq]; omega
        rw [this]; omega
      generalize addL p (nz W) (movL (nz W) by_) (-1) = Bm at *
      by_cases hf : foldV p (e.natAbs : Int) Bm = List.replicate e.natAbs 0
      · rw [if_pos hf]
        refine ⟨(fun h => by cases h), fun qs hq => ?_⟩
        obtain rfl := Option.some.inj hq
        have hz := hfz.mp hf
        have hhas : hasL p e (FL W) n = true := hi.mpr fun x => by have := hmz.mp hz x; rw [hc2, hc2] at this; exact this
        obtain ⟨x1, x2, x3⟩ := overL_ok (d := e) hp o2
        have hrec := over_rec hp he o1.nd hz
        generalize overL p Bm e = X at *
        obtain ⟨w1, w2, w3⟩ := short_walk (e := by_) hp hp3 x1
        have hlen := short_len (e := by_) hp hp3 x1 x2 (by omega)
        have hFL : FL (walkW p (shortK p by_ X).ls).2 = FL X := FL_ext w2
        refine ⟨hhas, w3, by omega, by rw [w1]; exact hen, ?_, by rw [hFL]; have := FL_len X; omega⟩
        rw [w1, hFL]
        refine (times_iff hp hby0 n1 hW).mpr ⟨by rw [Int.mul_comm]; exact hen, fun r => ?_⟩
        have ht := tm_get (p := p) (e := by_) hp x1.nd n.toNat
        obtain ⟨N1, k1⟩ := supp W
        obtain ⟨N2, k2⟩ := supp (tmL p by_ X n.toNat)
        have hD : ∀ r, Mq p (getI W r - getI (tmL p by_ X n.toNat) r) (getI W (r - by_) - getI (tmL p by_ X n.toNat) (r - by_)) := by
          intro r
          have t1 := sig_tel (getI X) r by_ n.toNat
          rw [Int.toNat_of_nonneg (by omega), show n * by_ = e by rw [Int.mul_comm]; exact hen] at t1
          obtain ⟨c1, q1⟩ := ht r
          obtain ⟨c2, q2⟩ := ht (r - by_)
          obtain ⟨c3, q3⟩ := hrec r
          obtain ⟨c4, q4⟩ := hB r
          exact ⟨c2 - c1 - c3 - c4, by grind⟩
        have := drain hby0 hD (N := N1 + N2) (fun r hr => by rw [k1 r (by omega), k2 r (by omega)]; rfl) r
        obtain ⟨c1, q1⟩ := this
        obtain ⟨c2, q2⟩ := ht r
        exact ⟨c1 + c2, by grind⟩
      · rw [if_neg hf]
        refine ⟨fun _ => ?_, fun qs hq => by cases hq⟩
        refine Bool.eq_false_iff.mpr fun hh => hf (hfz.mpr (hmz.mpr fun x => ?_))
        rw [hc2, hc2]
        exact hi.mp hh x
    · rw [if_pos hm]
      refine ⟨fun _ => ?_, fun qs hq => by cases hq⟩
      unfold hasL
      rw [if_neg he, if_pos hm]
theorem times_zero_comp {p n m : Int} : ∀ F : DI, ((((F.map fun q => (q.1, (q.2 * m) % p)).filter fun q => decide (q.2 ≠ 0)).map fun q => (q.1, (q.2 * n) % p)).filter fun q => decide (q.2 ≠ 0)) = ((F.map fun q => (q.1, (q.2 * (n * m)) % p)).filter fun q => decide (q.2 ≠ 0))
  | [] => rfl
  | q :: F => by
    have ih := times_zero_comp (p := p) (n := n) (m := m) F
    have e : (q.2 * m % p * n) % p = (q.2 * (n * m)) % p := by
      rw [Int.mul_emod (q.2 * m % p), Int.emod_emod, ← Int.mul_emod]; congr 1; grind
    simp only [List.map_cons, List.filter_cons]
    by_cases h : (q.2 * m) % p = 0
    · have h2 : (q.2 * (n * m)) % p = 0 := by rw [← e, h]; simp
      rw [if_neg (by simpa using h), if_neg (by simpa using h2), ih]
    · rw [if_pos (by simpa using h), List.map_cons, List.filter_cons, ih]
      dsimp only
      rw [e]
theorem part_comp {p n m : Int} {w0 w1 w2 : Int × DI} (hp : 0 < p) (n1 : 1 ≤ n) (m1 : 1 ≤ m) (h0 : ∀ r, 0 ≤ getI w0.2 r ∧ getI w0.2 r < p) (h1 : ∀ r, 0 ≤ getI w1.2 r ∧ getI w1.2 r < p)
    (e1 : w1.1 * n = w0.1) (t1 : timesD p w1.1 (FL w1.2) n = formD w0.1 (FL w0.2)) (e2 : w2.1 * m = w1.1) (t2 : timesD p w2.1 (FL w2.2) m = formD w1.1 (FL w1.2)) :
    w2.1 * (n * m) = w0.1 ∧ timesD p w2.1 (FL w2.2) (n * m) = formD w0.1 (FL w0.2) := by
  have ee : w2.1 * (n * m) = w0.1 := by rw [← e1, ← e2]; grind
  refine ⟨ee, ?_⟩
  by_cases h : w2.1 = 0
  · have z1 : w1.1 = 0 := by rw [← e2, h]; simp
    have z0 : w0.1 = 0 := by rw [← e1, z1]; simp
    rw [h] at t2 ⊢
    rw [z1] at t1 t2
    rw [z0] at t1 ⊢
    have d : ∀ (F : DI) (k : Int), timesD p 0 F k = formD 0 ((F.map fun q => (q.1, (q.2 * k) % p)).filter fun q => decide (q.2 ≠ 0)) := fun F k => if_pos rfl
    rw [d] at t1 t2 ⊢
    have inj : ∀ {F G : DI}, formD 0 F = formD 0 G → F = G := fun {F G} hh => by
      have hh : D.tup [.int 0, .tup (F.map pairD)] = D.tup [.int 0, .tup (G.map pairD)] := hh
      injection hh with h
      obtain ⟨_, h2⟩ := List.cons.inj h
      obtain ⟨h2, _⟩ := List.cons.inj h2
      injection h2 with h2
      exact pairD_inj h2
    rw [← times_zero_comp, inj t2, inj t1]
  · have hz1 : w1.1 ≠ 0 := fun z => by
      rw [z] at e2
      rcases Int.mul_eq_zero.mp e2 with q | q
      · exact h q
      · omega
    obtain ⟨_, a1⟩ := (times_iff hp hz1 n1 h0).mp t1
    obtain ⟨_, a2⟩ := (times_iff hp h m1 h1).mp t2
    have hnm : 1 ≤ n * m := by have := Int.mul_le_mul_of_nonneg_left m1 (show 0 ≤ n by omega); omega
    refine (times_iff hp h hnm h0).mpr ⟨by rw [Int.mul_comm]; exact ee, fun r => ?_⟩
    refine (a1 r).trans ?_
    have := sig_comp (P := getI w1.2) (s := getI w2.2) (b := w2.1) (m := m.toNat) a2 r n.toNat
    rw [Int.toNat_of_nonneg (show 0 ≤ m by omega), show m * w2.1 = w1.1 by rw [Int.mul_comm]; exact e2] at this
    rw [show (n * m).toNat = n.toNat * m.toNat from by
      have : ((n.toNat * m.toNat : Nat) : Int) = n * m := by rw [Int.natCast_mul, Int.toNat_of_nonneg (by omega), Int.toNat_of_nonneg (by omega)]
      omega]
    exact this
end Kx
set_option maxHeartbeats 2000000
namespace Kx
open PySem PySem.Spec L2 DL
/-- the names that the tried function asks for -/
structure Gx (K : PySem.W.Frag) (mg : Str → Option Value) (CL CN CS SE : Addr) : Prop where
  xc : Xc K CL CN CS SE
  c1 : mg "BadLetters" = some (.ref CL)
  c2 : mg "BadNumber" = some (.ref CN)
  c3 : mg "BadShow" = some (.ref CS)
  c4 : mg "StileError" = some (.ref SE)
  m3 : mg "ValueError" = none
theorem rd_tgt3 {i j l : Nat} {x y z : D} {δ : Sl} {M : Sto} {k : Sl → Sto → Prop} (h : k (((δ.set i (some x)).set j (some y)).set l (some z)) M) : gCnD (gNm i) (gCnD (gNm j) (gCnD (gNm l) gNlD)) [x, y, z] δ M k := h
theorem rd_neS {s : Str} {M : Sto} {k : DKt} (hk : k (.bl false) M) : rNee (.str s) (.str s) M k := by
  unfold rNee eqD
  simpa using hk
theorem rd_eqS {s : Str} {M : Sto} {k : DKt} (hk : k (.bl true) M) : rEqq (.str s) (.str s) M k := by
  unfold rEqq eqD
  simpa using hk
theorem rd_rep {te : TED} {δ : Sl} {M : Sto} {d : D} (k : DKt) (h : ∀ k : DKt, k d M → te δ M k) (r : RpOkS d) (hk : k (.str (shown d)) M) : dCB rReprS (dCons te dNil) δ M k := rd_cb1 k h ⟨r, hk⟩
/-- repr(x) != repr(y), x and y alike -/
theorem rd_same {ta tb : TED} {δ : Sl} {M : Sto} {d : D} (r : RpOkS d) (h1 : ∀ k : DKt, k d M → ta δ M k) (h2 : ∀ k : DKt, k d M → tb δ M k) (k : Bool → Sto → Prop) (hk : k false M) : dTst (dOp rNee (dCB rReprS (dCons ta dNil)) (dCB rReprS (dCons tb dNil))) δ M k := by
  unfold dTst
  exact rd_op _ (fun k hk => rd_rep k h1 r hk) (fun k hk => rd_rep k h2 r hk) (rd_neS hk)
theorem rd_sameE {ta tb : TED} {δ : Sl} {M : Sto} {d : D} (r : RpOkS d) (h1 : ∀ k : DKt, k d M → ta δ M k) (h2 : ∀ k : DKt, k d M → tb δ M k) (k : DKt) (hk : k (.bl true) M) : dOp rEqq (dCB rReprS (dCons ta dNil)) (dCB rReprS (dCons tb dNil)) δ M k :=
  rd_op _ (fun k hk => rd_rep k h1 r hk) (fun k hk => rd_rep k h2 r hk) (rd_eqS hk)
theorem tried_ret {CL CN : Addr} {tl : XKD → Sto → DKt → Prop} {M M1 : Sto} {kk : DKt} {v : D} (h : ∀ (e : XKD) (k : DKt), k v M1 → tl e M k) (hk : kk (.tup [.str "returned", v]) M1) : triedT CL CN tl M kk := fun e _ _ => h e _ hk
theorem tried_L {CL CN : Addr} {tl : XKD → Sto → DKt → Prop} {M M1 : Sto} {kk : DKt} {d : D} (h : ∀ (e : XKD) (k : DKt), e CL [("thing", d)] M1 → tl e M k) (hk : kk (.tup [.str "BadLetters", .str "StileError", d]) M1) : triedT CL CN tl M kk := fun e h1 _ => h e _ (h1 d M1 hk)
theorem tried_N {CL CN : Addr} {tl : XKD → Sto → DKt → Prop} {M M1 : Sto} {kk : DKt} {d : D} (h : ∀ (e : XKD) (k : DKt), e CN [("thing", d)] M1 → tl e M k) (hk : kk (.tup [.str "BadNumber", .str "StileError", d]) M1) : triedT CL CN tl M kk := fun e _ h1 => h e _ (h1 d M1 hk)
theorem rd_cutAny {tt : TTD} {t u : TSD} {d : EndD} {δ : Sl} {M : Sto} (ht : ∀ k : Bool → Sto → Prop, (∀ b, k b M) → tt δ M k) (h1 : t { d with nx := u d } δ M) (h2 : u d δ M) : dSeq (dIfS tt t dNext) u d δ M := ht _ fun b => by
  cases b with
  | true => exact h1
  | false => exact h2
def spLaw (W : Wd) : SpD := fun ds M k _ => ∃ (b : Addr) (ns : List Int), ds = [.ref b] ∧ (b, ns) ∈ W.S ∧ ∀ M', k (.bl true) M'
theorem row_gd {ls : List Int} (h : ∀ l ∈ ls, isLtr l) (hl : ls.length ≤ 60) : Gd 130000 1 70 (.tup (ls.map D.int)) := by
  have sm : (1000 : Nat) < 2 ^ 70 := by decide
  have gen : ∀ ls : List Int, (∀ l ∈ ls, isLtr l) → GL (2002 * ls.length) 0 70 (ls.map D.int) := by
    intro ls
    induction ls with
    | nil => intro _; exact GL.nil
    | cons l ls ih =>
      intro h
      have h0 := h l List.mem_cons_self
      have g1 : Gd 2000 0 70 (.int l) := .int (by unfold isLtr at h0; omega)
      exact (GL.cons g1 (ih fun x hx => h x (List.mem_cons_of_mem _ hx))).mono (by simp; omega) (Nat.le_refl _)
  exact (gen ls h).tup.up (by omega) (Nat.le_refl _) (Nat.le_refl _)
theorem undone_ltr {ls : List Int} (h : ∀ l ∈ ls, isLtr l) : ∀ l ∈ ls.reverse.map fun l => -l, isLtr l := by
  intro l hl
  obtain ⟨x, hx, rfl⟩ := List.mem_map.mp hl
  have := h x (List.mem_reverse.mp hx)
  unfold isLtr at this ⊢; omega
theorem rd_par3G {ta tb tc : TED} {i j l : Nat} {u : TSD} {d : EndD} {δ : Sl} {M : Sto} (G1 G2 G3 : D → Prop) (h1 : ∀ k : DKt, (∀ x, G1 x → k x M) → ta δ M k) (h2 : ∀ k : DKt, (∀ x, G2 x → k x M) → tb δ M k) (h3 : ∀ k : DKt, (∀ x, G3 x → k x M) → tc δ M k) (hn : ∀ x y z, G1 x → G2 y → G3 z → u d (((δ.set i (some x)).set j (some y)).set l (some z)) M) : dSeq (dPar3 i j l (dCons ta (dCons tb (dCons tc dNil)))) u d δ M := h1 _ fun x hx => h2 _ fun y hy => h3 _ fun z hz => hn x y z hx hy hz
theorem rd_tup2G {ta tb : TED} {δ : Sl} {M : Sto} {y : D} (G : D → Prop) (h1 : ∀ k : DKt, (∀ x, G x → k x M) → ta δ M k) (h2 : ∀ k : DKt, k y M → tb δ M k) (k : DKt) (hk : ∀ x, G x → k (.tup [x, y]) M) : dTup (dCons ta (dCons tb dNil)) δ M k := h1 _ fun x hx => h2 _ ⟨by rw [sizeLine_eq]; simp, hk x hx⟩
theorem rd_opG2 {r : R2D} {ta tb : TED} {δ : Sl} {M : Sto} {y : D} (G : D → Prop) (h1 : ∀ k : DKt, (∀ x, G x → k x M) → ta δ M k) (h2 : ∀ k : DKt, k y M → tb δ M k) {k : DKt} (hr : ∀ x, G x → r x y M k) : dOp r ta tb δ M k := h1 _ fun x hx => h2 _ (hr x hx)
theorem rd_if2s {tt : TTD} {t1 t2 u : TSD} {d : EndD} {δ : Sl} {M : Sto} (b : Bool) (ht : ∀ k : Bool → Sto → Prop, k b M → tt δ M k) (h1 : b = true → t1 { d with nx := u d } δ M) (h2 : b = false → t2 { d with nx := u d } δ M) : dSeq (dIfS tt t1 t2) u d δ M := rd_if b ht h1 h2
theorem rd_ifAny {tt : TTD} {t u : TED} {k : DKt} {δ : Sl} {M : Sto} (ht : ∀ k : Bool → Sto → Prop, (∀ b, k b M) → tt δ M k) (h1 : t δ M k) (h2 : u δ M k) : dIf tt t u δ M k := ht _ fun b => by
  cases b with
  | true => exact h1
  | false => exact h2
theorem rd_lstM1 {te : TED} {i : Nat} {u : TSD} {d : EndD} {δ : Sl} {M : Sto} {x : D} (h : ∀ k : DKt, k x M → te δ M k) (hn : ∀ q, M q = none → u d (δ.set i (some (.ref q))) (updM M q (.lst [x]))) : dSeq (dSet i (dLstM (dCons te dNil))) u d δ M := h _ ⟨by rw [sizeLine_eq]; simp, hn⟩
theorem rd_frzLs {i : Nat} {tb : TSD} {d : EndD} {δ : Sl} {M : Sto} {ds : List D} {a : Addr} (e1 : δ[i]? = some (some (.ref a))) (e2 : M a = some (.lst ds)) (h : tb d (δ.set i (some (.lst ds))) (delM M a)) : sFrzL i tb d δ M := by
  unfold sFrzL
  simp only [e1, e2]
  exact h
theorem rd_pickU {G : D → Prop} {e : XKD} {t : TAD} {δ : Sl} {M : Sto} {i : Nat} {a : Addr} (n : Nat) (h1 : 1 ≤ n) (hn : n < 1000) (ha : δ[i]? = some (some (.ref a))) (hM : M a = some (.deck DK)) (h : ∀ k : List D → Sto → Prop, (∀ xs, AllG G n xs → k xs M) → t δ M k) (k : DKt) (hk : ∀ x, G x → k x M) : dCall spPick e (dCons (dVar i) (dCons (dLst t) dNil)) δ M k := by
  show dVar i δ M fun x M1 => dCons (dLst t) dNil δ M1 fun xs M2 => spPick (x :: xs) M2 k e
  refine rd_var ha ?_
  show dLst t δ M fun y M1 => dNil δ M1 fun ys M2 => spPick (.ref a :: y :: ys) M2 k e
  refine rd_lstU n (by omega) h _ fun xs hx => ?_
  exact ⟨a, _, rfl, hM, xs, .inl rfl, by have := hx.1; omega, by have := hx.1; omega, fun x hx2 => hk x (hx.2 x hx2)⟩
theorem rd_pickL {G : D → Prop} {e : XKD} {δ : Sl} {M : Sto} {i j : Nat} {a : Addr} {xs : List D} (ha : δ[i]? = some (some (.ref a))) (hj : δ[j]? = some (some (.lst xs))) (hM : M a = some (.deck DK)) (h1 : 1 ≤ xs.length) (h2 : xs.length < 1000) (hG : ∀ x ∈ xs, G x) (k : DKt) (hk : ∀ x, G x → k x M) : dCall spPick e (dCons (dVar i) (dCons (dVar j) dNil)) δ M k := by
  show dVar i δ M fun x M1 => dCons (dVar j) dNil δ M1 fun xs M2 => spPick (x :: xs) M2 k e
  refine rd_var ha ?_
  show dVar j δ M fun y M1 => dNil δ M1 fun ys M2 => spPick (.ref a :: y :: ys) M2 k e
  refine rd_var hj ?_
  exact ⟨a, _, rfl, hM, xs, .inl rfl, h1, h2, fun x hx => hk x (hG x hx)⟩
/-! ### what the tellings may show -/
structure RpD (c : Str) (d : D) : Prop where
  g : gd d
  r : RpOkS (.lst [.tup [.str c, .str "StileError", d], .tup [.str c, .str "StileError", d]])
def rpsB (d : D) : Bool := okP d && ((toP d).showable && (decide ((shown d).length ≤ 10000) && decide ((toP d).depth ≤ 50)))
theorem rpsB_ok {d : D} (h : rpsB d = true) : RpOkS d := by
  unfold rpsB at h
  simp only [Bool.and_eq_true, decide_eq_true_eq] at h
  exact ⟨h.1, h.2.1, by rw [sizeLine_eq]; omega, h.2.2.2⟩
def rpdB (c : Str) (d : D) : Bool := gdB d && rpsB (.lst [.tup [.str c, .str "StileError", d], .tup [.str c, .str "StileError", d]])
theorem rpdB_ok {c : Str} {d : D} (h : rpdB c d = true) : RpD c d := by
  unfold rpdB at h
  rw [Bool.and_eq_true] at h
  exact ⟨gdB_ok d h.1, rpsB_ok h.2⟩
theorem Gd.due {n m b : Nat} {d : D} {c : Str} (hc : c = "BadLetters" ∨ c = "BadNumber") (g : Gd n m b d) (hb : b ≤ 1900) (hn : n ≤ 7000000) (hm : m ≤ 47) : RpD c d := by
  refine ⟨g.gd (by omega), ?_⟩
  have s : ∀ x ∈ [("BadLetters" : Str), "BadNumber", "StileError"], (reprText x).length ≤ 100 := by decide +kernel
  have g1 : Gd 100 0 b (.str c) := ⟨rfl, s _ (by rcases hc with rfl | rfl <;> simp), Nat.zero_le _⟩
  have g2 : Gd 100 0 b (.str "StileError") := ⟨rfl, s _ (by simp), Nat.zero_le _⟩
  have g3 := (GL.cons (g1.up (Nat.le_refl _) (Nat.zero_le m) (Nat.le_refl _)) (GL.cons (g2.up (Nat.le_refl _) (Nat.zero_le m) (Nat.le_refl _)) (GL.one g))).tup
  exact ((GL.cons g3 (GL.one g3)).lst.rp hb (by omega) (by omega)).s
theorem odds_due : ∀ o ∈ odds, RpD "BadLetters" o := by
  have h : odds.all (rpdB "BadLetters") = true := by decide +kernel
  exact fun o ho => rpdB_ok (List.all_eq_true.mp h o ho)
theorem oddMods_due : ∀ o ∈ oddMods, RpD "BadNumber" o := by
  have h : oddMods.all (rpdB "BadNumber") = true := by decide +kernel
  exact fun o ho => rpdB_ok (List.all_eq_true.mp h o ho)
/-! ### repr of many letters -/
theorem rp_letters {ls : List Int} (h : ∀ l ∈ ls, isLtr l) (hl : ls.length ≤ 700000) : RpOkS (.tup (ls.map D.int)) := by
  have one : ∀ l, isLtr l → okP (.int l) = true ∧ (toP (.int l)).showable = true ∧ (toP (.int l)).hasDict = false ∧ (toP (.int l)).shown.length ≤ 2 ∧ (toP (.int l)).depth = 0 := by
    intro l h
    rcases h with rfl | rfl | rfl | rfl <;> decide +kernel
  have gen : ∀ ls : List Int, (∀ l ∈ ls, isLtr l) → okPs (ls.map D.int) = true ∧ PyData.showableAll (toPs (ls.map D.int)) = true ∧ PyData.hasDictAll (toPs (ls.map D.int)) = false ∧ ((PyData.shownAll (toPs (ls.map D.int))).map (·.length)).sum + 2 * (PyData.shownAll (toPs (ls.map D.int))).length ≤ 4 * ls.length ∧ PyData.depthAll (toPs (ls.map D.int)) = 0 := by
    intro ls
    induction ls with
    | nil => intro _; exact ⟨rfl, rfl, rfl, Nat.le_refl _, rfl⟩
    | cons l ls ih =>
      intro h
      obtain ⟨a1, a2, a3, a4, a5⟩ := one l (h l List.mem_cons_self)
      obtain ⟨b1, b2, b3, b4, b5⟩ := ih fun x hx => h x (List.mem_cons_of_mem _ hx)
      refine ⟨?_, ?_, ?_, ?_, ?_⟩
      · show (okP (.int l) && okPs (ls.map D.int)) = true
        rw [a1, b1]; rfl
      · show ((toP (.int l)).showable && PyData.showableAll (toPs (ls.map D.int))) = true
        rw [a2, b2]; rfl
      · show ((toP (.int l)).hasDict || PyData.hasDictAll (toPs (ls.map D.int))) = false
        rw [a3, b3]; rfl
      · show (((toP (.int l)).shown :: PyData.shownAll (toPs (ls.map D.int))).map (·.length)).sum + 2 * ((toP (.int l)).shown :: PyData.shownAll (toPs (ls.map D.int))).length ≤ 4 * (ls.length + 1)
        simp only [List.map_cons, List.sum_cons, List.length_cons]
        omega
      · show max (toP (.int l)).depth (PyData.depthAll (toPs (ls.map D.int))) = 0
        rw [a5, b5]; rfl
  obtain ⟨a1, a2, a3, a4, a5⟩ := gen ls h
  refine ⟨by simpa [okP] using a1, by simpa [toP, PyData.showable] using a2, ?_, by simp only [toP, PyData.depth, a5]; omega⟩
  have := tupleText_len_le (PyData.shownAll (toPs (ls.map D.int)))
  rw [sizeLine_eq]
  unfold shown
  simp only [toP, PyData.shown]
  omega
end Kx
set_option maxHeartbeats 2000000
namespace Kx
open PySem PySem.Spec L2 DL
def spWhole : SpD := fun ds M k _ => ∃ (a : Addr) (p : Int), ds = [.ref a, .int p] ∧ M a = some (.deck DK) ∧ ∀ (ls : List Int) (m : Int), (∀ l ∈ ls, isLtr l) → ls.length ≤ 60 → 1 ≤ m → m ≤ 5 → k (.tup [.tup (ls.map D.int), .int m]) M
theorem rep_map (m : Nat) (ls : List Int) : (List.replicate m (ls.map D.int)).flatten = ((List.replicate m ls).flatten).map D.int := by
  induction m with
  | zero => rfl
  | succ m ih => rw [List.replicate_succ, List.replicate_succ, List.flatten_cons, List.flatten_cons, ih, List.map_append]
theorem rep_ltr {m : Nat} {ls : List Int} (h : ∀ l ∈ ls, isLtr l) : ∀ l ∈ (List.replicate m ls).flatten, isLtr l := by
  intro l hl
  obtain ⟨x, hx, hl2⟩ := List.mem_flatten.mp hl
  rw [(List.mem_replicate.mp hx).2] at hl2
  exact h l hl2
theorem fm_ones : ∀ ls : List Int, (ls.map D.int).filterMap (fun d => match d with | .int l => (if (l.natAbs : Int) = 1 then some (D.int l) else none) | _ => none) = (ls.filter fun l => decide ((l.natAbs : Int) = 1)).map D.int
  | [] => rfl
  | l :: ls => by
    have ih := fm_ones ls
    rw [List.map_cons, List.filter_cons]
    by_cases h : (l.natAbs : Int) = 1
    · rw [List.filterMap_cons_some (b := D.int l) (by show (if (l.natAbs : Int) = 1 then some (D.int l) else none) = _; rw [if_pos h]), ih, if_pos (by simpa using h), List.map_cons]
    · rw [List.filterMap_cons_none (by show (if (l.natAbs : Int) = 1 then some (D.int l) else none) = _; rw [if_neg h]), ih, if_neg (by simpa using h)]
section
variable {P : Program} {w : World} {K : PySem.W.Frag} {mg : Str → Option Value} {base : Heap} {W : Wd}
theorem ok_law_whole (Df : DefAt K mg "_law_whole" s_law_whole ["deck", "p"]) (g : Gb K mg) (hW : W.K = K) (c_law_lamp_row : CalD P w K mg base W 3 "_law_lamp_row" ["deck", "most"] spLampRow) (c_law_draw : CalD P w K mg base W 1 "_law_draw" ["deck", "many"] (spDraw DK)) (c_law_pick : CalD P w K mg base W 2 "_law_pick" ["deck", "some"] spPick)
    (c_law_undone : CalD P w K mg base W 1 "_law_undone" ["row"] spUndone) : CalD P w K mg base W 4 "_law_whole" ["deck", "p"] spWhole :=
  okC Df sc_law_whole (fun ds M k e ⟨_, _, h, _⟩ => by rw [h]; rfl) fun f cdv A outer s H E F0 ds M kk e hr ⟨a, p, hd, hM, hk⟩ => by
    subst hd
    refine ⟨_, (psd_cons (psd_par3 2 4 5 rfl sc_law_whole.nd (pda_cons (pd_cal c_law_lamp_row (hr.mono (by decide)) (pda_cons (pd_var 0) (pda_cons pd_int pda_nil))) (pda_cons (pd_op od_add pd_int (pd_cal c_law_draw (hr.mono (by decide)) (pda_cons (pd_var 0) (pda_cons pd_int pda_nil)))) (pda_cons (pd_cal c_law_draw (hr.mono (by decide)) (pda_cons (pd_var 0) (pda_cons pd_int pda_nil))) pda_nil)))) (psd_cons (psd_if (ptd_cmp (od_eq hr.units0) (pd_var 5) pd_int (nomark _)) (psd_one (psd_set 2 sc_law_whole.nd (pd_op od_add (pd_var 2) (pd_cal c_law_undone (hr.mono (by decide)) (pda_cons (pd_callTy cd_tuple rfl g.tuple_ PyProof.Rows.Boot.«tuple» (pda_cons (pd_lc (own := [("letter", 6)]) rfl sc_law_whole.nd (pid_tup hW.symm (pd_var 2)) (blkOk_by (by first | kernel_rfl | rfl)) (sim_name (i := 6) (by decide)) (fun _ _ _ _ _ => pg_name (i := 6) sc_law_whole.nd rfl (by first | exact Or.inl rfl | exact Or.inr rfl)) (fun _ _ _ _ _ => ptsd_one (ptd_cmp (od_eq hr.units0) (pd_callB cd_abs rfl g.abs_ PyProof.Rows.Boot.«abs» (pda_cons (pd_var 6) pda_nil)) pd_int (nomark _))) (fun _ _ _ _ _ => (pd_var 6))) pda_nil)) pda_nil))))) psd_nil) (psd_cons (psd_if (ptd_cmp (od_eq hr.units0) (pd_var 5) pd_int (nomark _)) (psd_one (psd_ret (pd_tup (pda_cons (pd_cal c_law_lamp_row (hr.mono (by decide)) (pda_cons (pd_var 0) (pda_cons pd_int pda_nil))) (pda_cons (pd_var 4) pda_nil))))) psd_nil) (psd_cons (psd_set 2 sc_law_whole.nd (pd_sl (pd_op od_mul (pd_var 2) (pd_var 4)) pod_none (pod_some pd_int))) (psd_cons (psd_set 3 sc_law_whole.nd (pd_cal c_law_draw (hr.mono (by decide)) (pda_cons (pd_var 0) (pda_cons (pd_op od_add (pd_callB cd_len rfl g.len_ PyProof.Rows.Boot.«len» (pda_cons (pd_var 2) pda_nil)) pd_int) pda_nil)))) (psd_cons (psd_if (ptd_cmp (od_eq hr.units0) (pd_var 5) pd_int (nomark _)) (psd_one (psd_ret (pd_tup (pda_cons (pd_op od_add (pd_op od_add (pd_sl (pd_var 2) pod_none (pod_some (pd_var 3))) (pd_cal c_law_pick (hr.mono (by decide)) (pda_cons (pd_var 0) (pda_cons (pd_lst (pda_cons (pd_tup (pda_cons pd_int pda_nil)) (pda_cons (pd_tup (pda_cons pd_int pda_nil)) (pda_cons (pd_tup (pda_cons (pd_un ud_neg pd_int) pda_nil)) (pda_cons (pd_tup (pda_cons (pd_un ud_neg pd_int) pda_nil)) pda_nil))))) pda_nil)))) (pd_sl (pd_var 2) (pod_some (pd_var 3)) pod_none)) (pda_cons (pd_var 4) pda_nil))))) psd_nil) (psd_cons (psd_if (ptd_cmp (od_eq hr.units0) (pd_var 5) pd_int (nomark _)) (psd_one (psd_ret (pd_tup (pda_cons (pd_op od_add (pd_op od_add (pd_sl (pd_var 2) pod_none (pod_some (pd_var 3))) (pd_cal c_law_pick (hr.mono (by decide)) (pda_cons (pd_var 0) (pda_cons (pd_lst (pda_cons (pd_tup (pda_cons pd_int (pda_cons (pd_un ud_neg pd_int) pda_nil))) (pda_cons (pd_tup (pda_cons pd_int (pda_cons (pd_un ud_neg pd_int) pda_nil))) (pda_cons (pd_tup (pda_cons (pd_un ud_neg pd_int) (pda_cons pd_int (pda_cons (pd_un ud_neg pd_int) (pda_cons pd_int pda_nil))))) pda_nil)))) pda_nil)))) (pd_sl (pd_var 2) (pod_some (pd_var 3)) pod_none)) (pda_cons (pd_var 4) pda_nil))))) psd_nil) (psd_one (psd_ret (pd_tup (pda_cons (pd_var 2) (pda_cons (pd_var 4) pda_nil)))))))))))), ?_⟩
    have sz : ∀ n : Nat, n ≤ 16000000 → n ≤ sizeLine := fun n h => by rw [sizeLine_eq]; omega
    refine rd_par3G (fun x => ∃ ls : List Int, x = .tup (ls.map D.int) ∧ (∀ l ∈ ls, isLtr l) ∧ ls.length ≤ 10) (fun x => ∃ j : Int, x = .int (1 + j) ∧ 0 ≤ j ∧ j < 5) (fun x => ∃ v : Int, x = .int v ∧ 0 ≤ v ∧ v < 7) (fun k hk => ⟨a, 10, rfl, hM, fun ls h1 h2 => hk _ ⟨ls, rfl, h1, h2⟩⟩)
      (fun k hk => ⟨a, 5, rfl, hM, by omega, by omega, fun j j0 j1 => hk _ ⟨j, rfl, j0, j1⟩⟩) (fun k hk => ⟨a, 7, rfl, hM, by omega, by omega, fun j j0 j1 => hk _ ⟨j, rfl, j0, j1⟩⟩) ?_
    rintro _ _ _ ⟨ls, rfl, hl, hlen⟩ ⟨j, rfl, j0, j1⟩ ⟨v, rfl, v0, v1⟩
    refine rd_join (fun δ' M' => M' = M ∧ ∃ (qs : List Int) (y : Option D), δ' = [some (.ref a), some (.int p), some (.tup (qs.map D.int)), none, some (.int (1 + j)), some (.int v), y] ∧ (∀ l ∈ qs, isLtr l) ∧ qs.length ≤ 20) ?tail ?h
    case h =>
      intro tl
      refine rd_if0 (decide (v = 0)) (fun k hk => hk) (fun hb => ?_) fun hb => tl _ _ ⟨rfl, ls, none, rfl, hl, by omega⟩
      have hf : ∀ l ∈ (ls.filter fun l => decide ((l.natAbs : Int) = 1)), isLtr l := fun l h => hl l (List.mem_filter.mp h).1
      have hfl : (ls.filter fun l => decide ((l.natAbs : Int) = 1)).length ≤ 10 := by have := List.length_filter_le (fun l : Int => decide ((l.natAbs : Int) = 1)) ls; omega
      refine rd_set (x := .tup ((ls ++ ((ls.filter fun l => decide ((l.natAbs : Int) = 1)).reverse.map fun l => -l)).map D.int)) (fun k hk => ?_) ?_
      · refine rd_op (x := .tup (ls.map D.int)) (y := .tup (((ls.filter fun l => decide ((l.natAbs : Int) = 1)).reverse.map fun l => -l).map D.int)) k (fun k hk => hk) (fun k hk => ?_) ?_
        · refine rd_call k (ds := [.tup ((ls.filter fun l => decide ((l.natAbs : Int) = 1)).map D.int)]) (fun k hk => ?_) ⟨_, rfl, by omega, hk⟩
          refine rd_acons (.tup ((ls.filter fun l => decide ((l.natAbs : Int) = 1)).map D.int)) [] (fun k hk => ?_) (fun k hk => hk) _ hk
          refine rd_cb1 _ (fun k hk => rd_lcf (ds := ls.map D.int) (fun d => match d with | .int l => (if (l.natAbs : Int) = 1 then some (D.int l) else none) | _ => none) (fun k hk => rd_itT (fun k hk => hk) k hk) (by rw [sizeLine_eq]; simp; omega) (fun d hd Mx sM kx hx => ?_) k hk) ?_
          · obtain ⟨l, hl2, rfl⟩ := List.mem_map.mp hd
            have hx : kx (if (l.natAbs : Int) = 1 then some (D.int l) else none) Mx := hx
            refine el_if (decide ((l.natAbs : Int) = 1)) (fun k hk => ?_) (fun hb => ?_) fun hb => ?_
            · exact rd_op (x := .int (l.natAbs : Int)) (y := .int 1) _ (fun k hk => rd_absI l (fun k hk => hk) k hk) (fun k hk => hk) hk
            · rw [if_pos (by simpa using hb)] at hx; exact hx
            · rw [if_neg (by simpa using hb)] at hx; exact hx
          · rw [fm_ones]; exact hk
        · refine ⟨sz _ (by simp; omega), ?_⟩
          rw [← List.map_append]; exact hk
      · refine tl _ _ ⟨rfl, ls ++ ((ls.filter fun l => decide ((l.natAbs : Int) = 1)).reverse.map fun l => -l), none, rfl, fun l h => ?_, by simp; omega⟩
        rcases List.mem_append.mp h with h | h
        · exact hl l h
        · exact undone_ltr hf l h
    case tail =>
      rintro δ' M' ⟨rfl, qs, y, rfl, hq, hql⟩
      refine rd_cut (decide (v = 1)) (fun k hk => hk) (fun hb => ?_) fun hb => ?_
      · exact ⟨a, 60, rfl, hM, fun ls2 h1 h2 => ⟨sz _ (by simp), hk ls2 (1 + j) h1 h2 (by omega) (by omega)⟩⟩
      have hr1 : ∀ l ∈ ((List.replicate (1 + j).toNat qs).flatten.take 56), isLtr l := fun l h => rep_ltr hq l (List.mem_of_mem_take h)
      have hrl : ((List.replicate (1 + j).toNat qs).flatten.take 56).length ≤ 56 := by rw [List.length_take]; omega
      refine rd_seqx (x := .tup (((List.replicate (1 + j).toNat qs).flatten.take 56).map D.int)) (fun k hk => ?_) ?_
      · refine ⟨by omega, by omega, by simp; omega, ?_⟩
        rw [rep_map]
        show k (.tup (cutD (((List.replicate (1 + j).toNat qs).flatten).map D.int) none (some ((56 : Nat) : Int)))) M'
        rw [cut_to, ← List.map_take]; exact hk
      generalize (List.replicate (1 + j).toNat qs).flatten.take 56 = rs at hr1 hrl
      refine rd_seqG (fun x => ∃ t : Nat, x = .int (t : Int)) (fun k hk => ⟨a, _, rfl, hM, by omega, by simp; omega, fun u u0 u1 => hk _ ⟨u.toNat, by rw [Int.toNat_of_nonneg u0]⟩⟩) ?_
      rintro _ ⟨t, rfl⟩
      have cutk : ∀ (ms : List Int), (∀ l ∈ ms, isLtr l) → ms.length ≤ 4 → kk (.tup [.tup (((rs.take t ++ ms) ++ rs.drop t).map D.int), .int (1 + j)]) M' := fun ms h1 h2 => by
        refine hk _ (1 + j) (fun l h => ?_) (by simp; omega) (by omega) (by omega)
        rcases List.mem_append.mp h with h | h
        · rcases List.mem_append.mp h with h | h
          · exact hr1 l (List.mem_of_mem_take h)
          · exact h1 l h
        · exact hr1 l (List.mem_of_mem_drop h)
      have ecut : ∀ ms : List Int, ((cutD (rs.map D.int) none (some (t : Int))) ++ ms.map D.int) ++ cutD (rs.map D.int) (some (t : Int)) none = ((rs.take t ++ ms) ++ rs.drop t).map D.int := fun ms => by
        rw [cut_to, cut_from, ← List.map_take, ← List.map_drop, ← List.map_append, ← List.map_append]
      have cl1 : (cutD (rs.map D.int) none (some (t : Int))).length ≤ 56 := by rw [cut_to]; simp; omega
      have cl2 : (cutD (rs.map D.int) (some (t : Int)) none).length ≤ 56 := by rw [cut_from]; simp; omega
      refine rd_cut (decide (v = 2)) (fun k hk => hk) (fun hb => ?_) fun hb => ?_
      · refine rd_ret (rd_tup2G (fun x => ∃ ms : List Int, x = .tup (((rs.take t ++ ms) ++ rs.drop t).map D.int) ∧ (∀ l ∈ ms, isLtr l) ∧ ms.length ≤ 4) (y := .int (1 + j)) (fun k hk => ?_) (fun k hk => hk) _ fun x ⟨ms, e, h1, h2⟩ => by rw [e]; exact cutk ms h1 h2)
        refine rd_opG2 (fun x => ∃ ms : List Int, x = .tup ((cutD (rs.map D.int) none (some (t : Int))) ++ ms.map D.int) ∧ (∀ l ∈ ms, isLtr l) ∧ ms.length ≤ 4) (y := .tup (cutD (rs.map D.int) (some (t : Int)) none)) (fun k hk => ?_) (fun k hk => hk) fun x ⟨ms, e, h1, h2⟩ => ?_
        · refine rd_opG (x := .tup (cutD (rs.map D.int) none (some (t : Int)))) (fun x => ∃ ms : List Int, x = .tup (ms.map D.int) ∧ (∀ l ∈ ms, isLtr l) ∧ ms.length ≤ 4) (fun k hk => hk) (fun k hk => ?_) fun y ⟨ms, e, h1, h2⟩ => ?_
          · refine rd_pickU (G := fun x => ∃ ms : List Int, x = .tup (ms.map D.int) ∧ (∀ l ∈ ms, isLtr l) ∧ ms.length ≤ 4) 4 (by omega) (by omega) rfl hM ?_ k hk
            refine rd_consU (fun k hk => ⟨sz _ (by simp), hk _ ⟨[2], rfl, by simp [isLtr], by simp⟩⟩) ?_
            refine rd_consU (fun k hk => ⟨sz _ (by simp), hk _ ⟨[1], rfl, by simp [isLtr], by simp⟩⟩) ?_
            refine rd_consU (fun k hk => ⟨sz _ (by simp), hk _ ⟨[-2], rfl, by simp [isLtr], by simp⟩⟩) ?_
            refine rd_consU (fun k hk => ⟨sz _ (by simp), hk _ ⟨[-1], rfl, by simp [isLtr], by simp⟩⟩) ?_
            exact fun k hk => rd_nilU k hk
          · subst e
            exact ⟨sz _ (by simp; omega), hk _ ⟨ms, rfl, h1, h2⟩⟩
        · subst e
          exact ⟨sz _ (by simp; omega), hk _ ⟨ms, by rw [ecut], h1, h2⟩⟩
      refine rd_cut (decide (v = 3)) (fun k hk => hk) (fun hb => ?_) fun hb => ?_
      · refine rd_ret (rd_tup2G (fun x => ∃ ms : List Int, x = .tup (((rs.take t ++ ms) ++ rs.drop t).map D.int) ∧ (∀ l ∈ ms, isLtr l) ∧ ms.length ≤ 4) (y := .int (1 + j)) (fun k hk => ?_) (fun k hk => hk) _ fun x ⟨ms, e, h1, h2⟩ => by rw [e]; exact cutk ms h1 h2)
        refine rd_opG2 (fun x => ∃ ms : List Int, x = .tup ((cutD (rs.map D.int) none (some (t : Int))) ++ ms.map D.int) ∧ (∀ l ∈ ms, isLtr l) ∧ ms.length ≤ 4) (y := .tup (cutD (rs.map D.int) (some (t : Int)) none)) (fun k hk => ?_) (fun k hk => hk) fun x ⟨ms, e, h1, h2⟩ => ?_
        · refine rd_opG (x := .tup (cutD (rs.map D.int) none (some (t : Int)))) (fun x => ∃ ms : List Int, x = .tup (ms.map D.int) ∧ (∀ l ∈ ms, isLtr l) ∧ ms.length ≤ 4) (fun k hk => hk) (fun k hk => ?_) fun y ⟨ms, e, h1, h2⟩ => ?_
          · refine rd_pickU (G := fun x => ∃ ms : List Int, x = .tup (ms.map D.int) ∧ (∀ l ∈ ms, isLtr l) ∧ ms.length ≤ 4) 3 (by omega) (by omega) rfl hM ?_ k hk
            refine rd_consU (fun k hk => ⟨sz _ (by simp), hk _ ⟨[2, -2], rfl, by simp [isLtr], by simp⟩⟩) ?_
            refine rd_consU (fun k hk => ⟨sz _ (by simp), hk _ ⟨[1, -1], rfl, by simp [isLtr], by simp⟩⟩) ?_
            refine rd_consU (fun k hk => ⟨sz _ (by simp), hk _ ⟨[-1, 1, -2, 2], rfl, by simp [isLtr], by simp⟩⟩) ?_
            exact fun k hk => rd_nilU k hk
          · subst e
            exact ⟨sz _ (by simp; omega), hk _ ⟨ms, rfl, h1, h2⟩⟩
        · subst e
          exact ⟨sz _ (by simp; omega), hk _ ⟨ms, by rw [ecut], h1, h2⟩⟩
      exact ⟨sz _ (by simp), hk rs (1 + j) hr1 (by omega) (by omega) (by omega)⟩
def spPartTold : SpD := fun ds M k _ => ∃ p ls n, ds = [.int p, .tup (ls.map D.int), .int n, partD (partL p ls n)] ∧ 2 ≤ p ∧ p ≤ 1000 ∧ (∀ l ∈ ls, isLtr l) ∧ ls.length ≤ 60 ∧ 1 ≤ n ∧ n < 2 ^ 62 ∧ k (.bl true) M
theorem formT_FL (p : Int) (ls : List Int) : formT p ls = formD (walkW p ls).1 (FL (walkW p ls).2) := by unfold formT; rw [formL_FL]; rfl
theorem ltr_lets {ls : List Int} (h : ∀ l ∈ ls, isLtr l) : isLets (.tup (ls.map D.int)) = true := by
  show (ls.map D.int).all isLet = true
  rw [List.all_eq_true]
  intro x hx
  obtain ⟨l, hl, rfl⟩ := List.mem_map.mp hx
  rcases h l hl with rfl | rfl | rfl | rfl <;> rfl
end
end Kx
set_option maxHeartbeats 2000000
namespace Kx
open PySem PySem.Spec L2 DL
theorem isNon_partD (qs : List Int) : isNon (partD (some qs)) = false := rfl
theorem gd_letters {ls : List Int} (hl : ls.length ≤ 2000000) : gd (.tup (ls.map D.int)) := ⟨by rw [sizeLine_eq]; simp; omega, gds_of fun x hx => by
  obtain ⟨l, _, rfl⟩ := List.mem_map.mp hx
  exact trivial⟩
theorem fl_small {p : Int} {ls : List Int} (hp : 0 < p) (hp2 : p ≤ 1000) (h : ∀ l ∈ ls, isLtr l) : ∀ q ∈ FL (walkW p ls).2, 0 ≤ q.2 ∧ q.2 < 1000 := fun q hq => by
  obtain ⟨s1, s2⟩ := walk_small hp h
  have := getI_small hp (fun q hq => (s2 q hq).2) q.1
  rw [(FL_mem hq).1]
  omega
theorem end_small {p : Int} {ls : List Int} (hp : 0 < p) (h : ∀ l ∈ ls, isLtr l) (hl : ls.length ≤ 60) : (walkW p ls).1.natAbs ≤ 60 := by
  have := (walk_small hp h).1
  omega
theorem part_end {e n w : Int} (h : e * n = w) (hw : w.natAbs ≤ 60) (n1 : 1 ≤ n) : e = 0 ∨ (n ≤ 1000 ∧ e.natAbs ≤ 1000) := by
  by_cases he : e = 0
  · exact .inl he
  · have h1 : e.natAbs * n.natAbs = w.natAbs := by rw [← Int.natAbs_mul, h]
    have h2 : e.natAbs * 1 ≤ e.natAbs * n.natAbs := Nat.mul_le_mul_left _ (by omega)
    have h3 : 1 * n.natAbs ≤ e.natAbs * n.natAbs := Nat.mul_le_mul_right _ (by omega)
    exact .inr ⟨by omega, by omega⟩
section
variable {P : Program} {w : World} {K : PySem.W.Frag} {mg : Str → Option Value} {base : Heap} {W : Wd}
theorem ok_law_is_part_told (Df : DefAt K mg "_law_is_part_told" s_law_is_part_told ["p", "row", "n", "part"]) (g : Gb K mg) (hW : W.K = K) (c_law_form : CalD P w K mg base W 1 "_law_form" ["p", "row"] spLForm) (c_law_has_lamp_part : CalD P w K mg base W 2 "_law_has_lamp_part" ["p", "form", "n"] spHas)
    (c_law_is_lamp_row : CalD P w K mg base W 2 "_law_is_lamp_row" ["thing"] spIsLets) (c_law_is_lamp_part : CalD P w K mg base W 2 "_law_is_lamp_part" ["p", "form", "n", "part"] spIsPart) : CalD P w K mg base W 3 "_law_is_part_told" ["p", "row", "n", "part"] spPartTold :=
  okC Df sc_law_is_part_told (fun ds M k e ⟨_, _, _, h, _⟩ => by rw [h]; rfl) fun f cdv A outer s H E F0 ds M kk e hr ⟨p, ls, n, hd, hp, hp2, hl, hlen, n1, n2, hk⟩ => by
    subst hd
    refine ⟨_, (psd_cons (psd_set 4 sc_law_is_part_told.nd (pd_cal c_law_form (hr.mono (by decide)) (pda_cons (pd_var 0) (pda_cons (pd_var 1) pda_nil)))) (psd_cons (psd_if (ptd_not (ptd_val (pd_cal c_law_has_lamp_part (hr.mono (by decide)) (pda_cons (pd_var 0) (pda_cons (pd_var 4) (pda_cons (pd_var 2) pda_nil)))))) (psd_one (psd_ret (pd_cmp od_isN (pd_var 3) pd_non (nomark _)))) psd_nil) (psd_one (psd_ret (pd_and (pd_cal c_law_is_lamp_row (hr.mono (by decide)) (pda_cons (pd_var 3) pda_nil)) (pd_one (pd_cal c_law_is_lamp_part (hr.mono (by decide)) (pda_cons (pd_var 0) (pda_cons (pd_var 4) (pda_cons (pd_var 2) (pda_cons (pd_cal c_law_form (hr.mono (by decide)) (pda_cons (pd_var 0) (pda_cons (pd_var 3) pda_nil))) pda_nil))))))))))), ?_⟩
    obtain ⟨pr1, pr2⟩ := part_right hp hp2 hl hlen n1
    have we := end_small (p := p) (by omega) hl hlen
    have wl := (walk_ok p ls).2
    have fll := FL_len (walkW p ls).2
    have hc : 0 < commL n p := by
      rw [commL_gcd (by omega) (by omega) (by omega)]
      have := Nat.gcd_pos_of_pos_left p.natAbs (show 0 < n.natAbs by omega)
      omega
    have fc : ∀ (qs : List Int), qs.length ≤ 2000000 → ∀ (k : DKt) (e : XKD), k (formD (walkW p qs).1 (FL (walkW p qs).2)) M → spLForm [.int p, .tup (qs.map D.int)] M k e := fun qs h k e hk => ⟨p, qs, rfl, by omega, h, by
      show k (formT p qs) M
      rw [formT_FL]; exact hk⟩
    refine rd_seqx (x := formD (walkW p ls).1 (FL (walkW p ls).2)) (fun k hk => fc ls (by omega) k X0 hk) ?_
    cases hq : partL p ls n with
    | none =>
      have hh := pr1 hq
      refine rd_cut true (fun k hk => rd_not false (fun k hk => ⟨p, _, _, n, rfl, by omega, by omega, by omega, n1, n2, hc, by rw [hh]; exact hk⟩) k hk) (fun _ => ?_) fun h => by cases h
      exact hk
    | some qs =>
      obtain ⟨q1, q2, q3, q4, q5, q6⟩ := pr2 qs hq
      refine rd_cut false (fun k hk => rd_not true (fun k hk => ⟨p, _, _, n, rfl, by omega, by omega, by omega, n1, n2, hc, by rw [q1]; exact hk⟩) k hk) (fun h => by cases h) fun _ => ?_
      refine rd_ret (rd_andV true true (fun k hk => ⟨.tup (qs.map D.int), rfl, gd_letters (by omega), by rw [ltr_lets q2]; exact hk⟩) (fun _ k hk => ?_) _ hk)
      refine rd_call k (ds := [.int p, formD (walkW p ls).1 (FL (walkW p ls).2), .int n, formD (walkW p qs).1 (FL (walkW p qs).2)]) (fun k hk => ?_) ⟨p, _, _, n, _, _, rfl, by omega, q6, fl_small (by omega) hp2 q2, n1, n2, part_end q4 we n1, q4, q5, hk⟩
      refine rd_acons _ _ (fun k hk => hk) (fun k hk => rd_acons _ _ (fun k hk => hk) (fun k hk => rd_acons _ _ (fun k hk => hk) (fun k hk => rd_acons _ _ (fun k hk => fc qs (by omega) k X0 hk) (fun k hk => hk) k hk) k hk) k hk) k hk
def spRefused : SpD := fun ds M k _ => ∃ (a : Addr) (p : Int) (ls : List Int) (n : Int), ds = [.ref a, .int p, .tup (ls.map D.int), .int n] ∧ M a = some (.deck DK) ∧ 2 ≤ p ∧ p ≤ 1000 ∧ (∀ l ∈ ls, isLtr l) ∧ ls.length ≤ 60 ∧ 1 ≤ n ∧ n < 2 ^ 62 ∧ k (.bl true) M
def lenD : D → Nat
  | .tup xs => xs.length
  | _ => 0
def manyC : List D := [.int 0, .int (-1), .non, .bl true, .bl false, .str "1", .tup [.int 1], .lst [.int 1], .tup [], .int (10 ^ 6), .int (-(10 ^ 39))]
theorem manys_due : ∀ x ∈ manyC, RpD "BadNumber" x := by
  have h : manyC.all (rpdB "BadNumber") = true := by decide +kernel
  exact fun o ho => rpdB_ok (List.all_eq_true.mp h o ho)
theorem int_due {n : Int} (h : n.natAbs < 2 ^ 62) : RpD "BadNumber" (.int n) := (Gd.int (m := 0) (b := 62) h).due (.inr rfl) (by omega) (by omega) (by omega)
theorem isInt_ok {d : D} (h : okMod d = true) : isInt d = true := by
  obtain ⟨i, rfl, _⟩ := okMod_int h
  rfl
theorem isInt_okN {d : D} (h : okN d = true) : isInt d = true := by
  cases d <;> first | rfl | cases h
theorem ok_law_is_refused {CL CN CS SE c Pt : Addr} (Df : DefAt K mg "_law_is_refused" s_law_is_refused ["deck", "p", "row", "n"]) (hc : ∀ (f : Addr) (fd : FuncData), mg "_law_is_refused" = some (.ref f) → L2.Fun K "_law_is_refused" "_law_is_refused" s_law_is_refused f fd → fd.code = .ref c) (g : Gb K mg) (gx : Gx K mg CL CN CS SE) (hW : W.K = K)
    (DfT : DefAt K mg "_law_lamps_tried" s_law_lamps_tried ["call"]) (TB : LamX.TabB base mg c Pt) (hmT : (Pt, ("_law_is_refused" : Str) ++ ".<locals>." ++ "<lambda>") ∈ W.T) (hu : ∀ q ∈ W.T, q.1 = Pt → q.2 = ("_law_is_refused" : Str) ++ ".<locals>." ++ "<lambda>")
    (c_law_pick : CalD P w K mg base W 2 "_law_pick" ["deck", "some"] spPick) (c_law_odd_modulus : CalD P w K mg base W 3 "_law_odd_modulus" ["deck"] (spOne (· ∈ oddMods))) (c_law_odd : CalD P w K mg base W 3 "_law_odd" ["deck"] (spOne (· ∈ odds))) (c_law_bent : CalD P w K mg base W (4 + 2) "_law_bent" ["deck", "thing"] (spBent 2))
    (c_law_is_integer : CalD P w K mg base W 1 "_law_is_integer" ["thing"] spIsWhole) (c_law_is_lamp_row : CalD P w K mg base W 2 "_law_is_lamp_row" ["thing"] spIsLets)
    (c_lamp_part : CalDX P w K mg base W 5 "lamp_part" ["p", "row", "n"] (spPart CN CL)) (k_lamp_part_nrp : KwDX P w K mg base W 5 "lamp_part" ["p", "row", "n"] ["n", "row", "p"] pm321 (spPart CN CL)) :
    CalDG P w K mg base W 9 "_law_is_refused" ["deck", "p", "row", "n"] spRefused := by
  obtain ⟨gT, fdT, mT, FT, bT⟩ := DfT
  exact okCGC Df hc sc_law_is_refused (fun ds M k e ⟨_, _, _, _, h, _⟩ => by rw [h]; rfl) fun f cdv A outer s H E F0 ds M kk e hcode hr hgu ⟨a, p, ls, n, hd, hM, hp, hp2, hl, hlen, n1, n2, hk⟩ => by
    subst hd
    have TRIED : ∀ cdg, GivesD W (cxOf CX0 P w K mg base ["deck", "p", "row", "n", "number", "thing", "many", "is_n", "told", "is_p", "is_row", "due"] "_law_is_refused" (defScope s_law_is_refused) f cdv A outer s H E).nox 6 ["call", "told", "e", "words", "word", "is_it"] "_law_lamps_tried" (defScope s_law_lamps_tried) gT cdg (defBody s_law_lamps_tried) "call" (triedT CL CN) :=
      fun cdg => gives_tried (k := 5) hW gx.xc gx.c1 gx.c2 gx.c3 gx.c4 g.isinstance_ g.tuple_ gx.m3
    refine ⟨_, (psd_cons (psd_set 4 sc_law_is_refused.nd (pd_cal c_law_pick (hr.mono (by omega)) (pda_cons (pd_var 0) (pda_cons (pd_lst (pda_cons (pd_var 1) (pda_cons (pd_var 1) (pda_cons (pd_var 1) (pda_cons (pd_cal c_law_odd_modulus (hr.mono (by omega)) (pda_cons (pd_var 0) pda_nil)) pda_nil))))) pda_nil)))) (psd_cons (psd_set 5 sc_law_is_refused.nd (pd_cal c_law_pick (hr.mono (by omega)) (pda_cons (pd_var 0) (pda_cons (pd_lst (pda_cons (pd_var 2) (pda_cons (pd_var 2) (pda_cons (pd_cal c_law_odd (hr.mono (by omega)) (pda_cons (pd_var 0) pda_nil)) (pda_cons (pd_cal c_law_bent (hr.mono (by omega)) (pda_cons (pd_var 0) (pda_cons (pd_var 2) pda_nil))) pda_nil))))) pda_nil)))) (psd_cons (psd_set 6 sc_law_is_refused.nd (pd_cal c_law_pick (hr.mono (by omega)) (pda_cons (pd_var 0) (pda_cons (pd_lst (pda_cons (pd_var 3) (pda_cons pd_int (pda_cons (pd_un ud_neg pd_int) (pda_cons pd_non (pda_cons pd_bl (pda_cons pd_bl (pda_cons pd_str (pda_cons (pd_tup (pda_cons pd_int pda_nil)) (pda_cons (pd_lst (pda_cons pd_int pda_nil)) (pda_cons (pd_un ud_neg (pd_var 3)) (pda_cons (pd_tup pda_nil) (pda_cons (pd_op od_pow pd_int pd_int) (pda_cons (pd_un ud_neg (pd_op od_pow pd_int pd_int)) pda_nil)))))))))))))) pda_nil)))) (psd_cons (psd_par 9 10 rfl sc_law_is_refused.nd (pda_cons (pd_and (pd_cal c_law_is_integer (hr.mono (by omega)) (pda_cons (pd_var 4) pda_nil)) (pd_one (pd_chain od_le od_le pd_int (pd_var 4) pd_int))) (pda_cons (pd_cal c_law_is_lamp_row (hr.mono (by omega)) (pda_cons (pd_var 5) pda_nil)) pda_nil))) (psd_cons (psd_set 7 sc_law_is_refused.nd (pd_and (pd_cal c_law_is_integer (hr.mono (by omega)) (pda_cons (pd_var 6) pda_nil)) (pd_one (pd_cmp od_gt (pd_var 6) pd_int (nomark _))))) (psd_cons (psd_if (ptd_and (ptd_val (pd_var 10)) (pwd_and1 (ptd_or (ptd_cmp od_gt (pd_callB cd_len rfl g.len_ PyProof.Rows.Boot.«len» (pda_cons (pd_var 5) pda_nil)) pd_int (nomark _)) (pwd_or1 (ptd_and (ptd_val (pd_var 9)) (pwd_and1 (ptd_val (pd_var 7)))))))) (psd_one (psd_ret pd_bl)) psd_nil) (psd_cons (psd_if (ptd_not (ptd_val (pd_var 9))) (psd_one (psd_set 11 sc_law_is_refused.nd (pd_tup (pda_cons pd_str (pda_cons pd_str (pda_cons (pd_var 4) pda_nil)))))) (psd_one (psd_set 11 sc_law_is_refused.nd (pd_ifExp (ptd_val (pd_var 10)) (pd_tup (pda_cons pd_str (pda_cons pd_str (pda_cons (pd_var 6) pda_nil)))) (pd_tup (pda_cons pd_str (pda_cons pd_str (pda_cons (pd_var 5) pda_nil)))))))) (psd_cons (psd_set 8 sc_law_is_refused.nd (pd_lstM (pda_cons (pd_lam (qual := "") (k := 5) FT mT bT sc_law_lamps_tried rfl (Or.inl rfl) TRIED TB hcode hmT hu (hr.mono (by omega)) (LamX.lamS_by (sc := defScope s_law_is_refused) (by decide +kernel)) (fun _ _ _ _ _ => rfl) (fun A outer s H E f c1 F1 e1 le1 hr hR => (pd_calX hR c_lamp_part (hr.mono (by omega)) (pda_cons (pd_var 4) (pda_cons (pd_var 5) (pda_cons (pd_var 6) pda_nil)))))) pda_nil))) (psd_cons (psd_expr (pd_append (pd_var 8) (pd_lam (qual := "") (k := 5) FT mT bT sc_law_lamps_tried rfl (Or.inl rfl) TRIED TB hcode hmT hu (hr.mono (by omega)) (LamX.lamS_by (sc := defScope s_law_is_refused) (by decide +kernel)) (fun _ _ _ _ _ => rfl) (fun A outer s H E f c1 F1 e1 le1 hr hR => (pd_calKX hR k_lamp_part_nrp (hr.mono (by omega)) (pkd_cons (pd_var 6) (pkd_cons (pd_var 5) (pkd_cons (pd_var 4) pkd_nil)))))))) (psd_one (psd_frzL 8 (psd_ret (pd_cmp (od_eq hr.units0) (pd_callB (cd_reprS g.sys_ hgu hr.units) rfl g.repr_ PyProof.Rows.Boot.«repr» (pda_cons (pd_var 8) pda_nil)) (pd_callB (cd_reprS g.sys_ hgu hr.units) rfl g.repr_ PyProof.Rows.Boot.«repr» (pda_cons (pd_op od_mul (pd_lst (pda_cons (pd_var 11) pda_nil)) pd_int) pda_nil)) (nomark _)))))))))))))), ?_⟩
    have sz : ∀ n : Nat, n ≤ 1000 → n ≤ sizeLine := fun n h => by rw [sizeLine_eq]; omega
    have gR : Gd 130000 1 70 (.tup (ls.map D.int)) := row_gd hl hlen
    refine rd_seqG (fun x => x = .int p ∨ x ∈ oddMods) (fun k hk => ?_) ?_
    · refine rd_pickU (G := fun x => x = .int p ∨ x ∈ oddMods) 4 (by omega) (by omega) rfl hM ?_ k hk
      refine rd_consU (fun k hk => hk _ (.inl rfl)) ?_
      refine rd_consU (fun k hk => hk _ (.inl rfl)) ?_
      refine rd_consU (fun k hk => hk _ (.inl rfl)) ?_
      refine rd_consU (fun k hk => ⟨a, rfl, hM, fun o ho => hk o (.inr ho)⟩) ?_
      exact fun k hk => rd_nilU k hk
    intro number hN
    refine rd_seqG (RpD "BadLetters") (fun k hk => ?_) ?_
    · refine rd_pickU (G := RpD "BadLetters") 4 (by omega) (by omega) rfl hM ?_ k hk
      refine rd_consU (fun k hk => hk _ (gR.due (.inl rfl) (by omega) (by omega) (by omega))) ?_
      refine rd_consU (fun k hk => hk _ (gR.due (.inl rfl) (by omega) (by omega) (by omega))) ?_
      refine rd_consU (fun k hk => ⟨a, rfl, hM, fun o ho => hk o (odds_due o ho)⟩) ?_
      refine rd_consU (fun k hk => ⟨a, _, 130000, 1, 70, rfl, hM, gR, by omega, by omega, by omega, by omega, fun x hx => hk x (hx.due (.inl rfl) (by omega) (by omega) (by omega))⟩) ?_
      exact fun k hk => rd_nilU k hk
    intro thing hT
    refine rd_seqG (RpD "BadNumber") (fun k hk => ?_) ?_
    · refine rd_pickU (G := RpD "BadNumber") 13 (by omega) (by omega) rfl hM ?_ k hk
      refine rd_consU (fun k hk => hk _ (int_due (by omega))) ?_
      refine rd_consU (fun k hk => hk _ (manys_due (.int 0) (by simp [manyC]))) ?_
      refine rd_consU (fun k hk => hk _ (manys_due (.int (-1)) (by simp [manyC]))) ?_
      refine rd_consU (fun k hk => hk _ (manys_due .non (by simp [manyC]))) ?_
      refine rd_consU (fun k hk => hk _ (manys_due (.bl true) (by simp [manyC]))) ?_
      refine rd_consU (fun k hk => hk _ (manys_due (.bl false) (by simp [manyC]))) ?_
      refine rd_consU (fun k hk => hk _ (manys_due (.str "1") (by simp [manyC]))) ?_
      refine rd_consU (fun k hk => ⟨sz _ (by simp), hk _ (manys_due (.tup [.int 1]) (by simp [manyC]))⟩) ?_
      refine rd_consU (fun k hk => ⟨sz _ (by simp), hk _ (manys_due (.lst [.int 1]) (by simp [manyC]))⟩) ?_
      refine rd_consU (fun k hk => hk _ (int_due (n := -n) (by omega))) ?_
      refine rd_consU (fun k hk => ⟨sz _ (by simp), hk _ (manys_due (.tup []) (by simp [manyC]))⟩) ?_
      refine rd_consU (fun k hk => ⟨⟨by decide, by decide, by decide⟩, hk _ (manys_due (.int (10 ^ 6)) (by simp [manyC]))⟩) ?_
      refine rd_consU (fun k hk => ⟨⟨by decide, by decide, by decide⟩, hk _ (manys_due (.int (-(10 ^ 39))) (by simp [manyC]))⟩) ?_
      exact fun k hk => rd_nilU k hk
    intro many hMy
    have gN : gd number := by
      rcases hN with rfl | ho
      · exact trivial
      · exact (odd_gd number ho).1
    refine rd_par (x := .bl (okMod number)) (y := .bl (isLets thing)) (fun k hk => ?_) (fun k hk => ⟨thing, rfl, hT.g, hk⟩) ?_
    · refine rd_andV (isInt number) (okMod number) (fun k hk => ⟨number, rfl, gN, hk⟩) (fun hi k hk => ?_) k ?_
      · cases number with
        | int i => exact rd_chainI 2 i 1000 (fun k h => h) (fun k h => h) (fun k h => h) _ hk
        | _ => cases hi
      · cases h : okMod number with
        | true => rw [h] at hk; rw [isInt_ok h]; exact hk
        | false => rw [h] at hk; rw [Bool.and_false]; exact hk
    refine rd_seqx (x := .bl (okN many)) (fun k hk => ?_) ?_
    · refine rd_andV (isInt many) (okN many) (fun k hk => ⟨many, rfl, hMy.g, hk⟩) (fun hi k hk => ?_) k ?_
      · cases many with
        | int i =>
          have e : decide (1 ≤ i) = decide (0 < i) := by rw [decide_eq_decide]; omega
          have hk : k (.bl (decide (1 ≤ i))) M := hk
          rw [e] at hk
          exact hk
        | _ => cases hi
      · cases h : okN many with
        | true => rw [h] at hk; rw [isInt_okN h]; exact hk
        | false => rw [h] at hk; rw [Bool.and_false]; exact hk
    refine rd_cut (isLets thing && (decide (60 < (lenD thing : Int)) || (okMod number && okN many))) (fun k hk => rd_and _ _ (fun k hk => hk) (fun hi k hk => ?_) k hk) (fun _ => hk) fun hb => ?_
    · obtain ⟨ts, rfl⟩ := isLets_ints hi
      exact rd_or (decide (60 < (lenD (.tup (ts.map D.int)) : Int))) (okMod number && okN many) (fun k hk => hk) (fun _ k hk => rd_and _ _ (fun k hk => hk) (fun _ k hk => hk) k hk) k hk
    have no : okMod number = true → isLets thing = true → okN many = true → False := fun h1 h2 h3 => by rw [h1, h2, h3] at hb; simp at hb
    refine rd_join (fun δ' M' => M' = M ∧ ∃ due : D, δ' = [some (.ref a), some (.int p), some (.tup (ls.map D.int)), some (.int n), some number, some thing, some many, some (.bl (okN many)), none, some (.bl (okMod number)), some (.bl (isLets thing)), some due] ∧ RpOkS (.lst [due, due]) ∧
      ∀ (M1 : Sto) (tl : XKD → Sto → DKt → Prop) (kk : DKt), (∀ e k, spPart CN CL [number, thing, many] M1 k e → tl e M1 k) → kk due M1 → triedT CL CN tl M1 kk) ?tail ?h
    case h =>
      intro tl
      cases hO : okMod number with
      | false =>
        have ho : number ∈ oddMods := by
          rcases hN with rfl | ho
          · rw [show okMod (.int p) = true by simp [okMod, hp, hp2]] at hO; cases hO
          · exact ho
        refine rd_if true (fun k hk => rd_not false (fun k hk => hk) k hk) (fun _ => ?_) fun h => by cases h
        refine rd_set (x := .tup [.str "BadNumber", .str "StileError", number]) (fun k hk => ⟨sz _ (by simp), hk⟩) (tl _ _ ⟨rfl, _, by rw [hO]; rfl, (oddMods_due number ho).r, fun M1 tl kk h hk => tried_N (d := number) (M1 := M1) (fun e k he => h e k ?_) hk⟩)
        exact ⟨number, thing, many, rfl, gN, hT.g, hMy.g, fun _ => he, (fun z => by rw [hO] at z; cases z), (fun z => by rw [hO] at z; cases z), (fun _ _ _ _ _ _ z => by rw [hO] at z; cases z)⟩
      | true =>
        refine rd_if false (fun k hk => rd_not true (fun k hk => hk) k hk) (fun h => by cases h) fun _ => ?_
        cases hL : isLets thing with
        | true =>
          have h3 : okN many = false := by
            cases h : okN many with
            | true => exact (no hO hL h).elim
            | false => rfl
          refine rd_set (x := .tup [.str "BadNumber", .str "StileError", many]) (fun k hk => rd_ifE true (fun k hk => hk) (fun _ => ⟨sz _ (by simp), hk⟩) fun h => by cases h) (tl _ _ ⟨rfl, _, by rw [hO, hL]; rfl, hMy.r, fun M1 tl kk h hk => tried_N (d := many) (M1 := M1) (fun e k he => h e k ?_) hk⟩)
          exact ⟨number, thing, many, rfl, gN, hT.g, hMy.g, (fun z => by rw [hO] at z; cases z), (fun _ z => by rw [hL] at z; cases z), fun _ _ _ => he, (fun _ _ _ _ _ _ _ _ z => by rw [h3] at z; cases z)⟩
        | false =>
          refine rd_set (x := .tup [.str "BadLetters", .str "StileError", thing]) (fun k hk => rd_ifE false (fun k hk => hk) (fun h => by cases h) fun _ => ⟨sz _ (by simp), hk⟩) (tl _ _ ⟨rfl, _, by rw [hO, hL]; rfl, hT.r, fun M1 tl kk h hk => tried_L (d := thing) (M1 := M1) (fun e k he => h e k ?_) hk⟩)
          exact ⟨number, thing, many, rfl, gN, hT.g, hMy.g, (fun z => by rw [hO] at z; cases z), fun _ _ => he, (fun _ z => by rw [hL] at z; cases z), (fun _ _ _ _ _ _ _ z => by rw [hL] at z; cases z)⟩
    case tail =>
      rintro δ' M' ⟨rfl, due, rfl, hr2, hD⟩
      refine rd_lstM1 (x := due) (fun k hk => hD M' _ k (fun e k h => h) hk) fun q hq => ?_
      refine rd_app (a := q) (ds := [due]) (x := due) (fun k hk => hk) updM_same (fun k hk => hD _ _ k (fun e k h => h) hk) (by rw [sizeLine_eq]; simp) ?_
      refine rd_frzLs (a := q) (ds := [due, due]) rfl updM_same ?_
      rw [updM_upd, updM_del hq]
      refine rd_ret (rd_sameE hr2 (fun k hk => hk) (fun k hk => ?_) _ hk)
      exact rd_op (x := .lst [due]) (y := .int 2) k (fun k hk => ⟨sz _ (by simp), hk⟩) (fun k hk => hk) ⟨by omega, by omega, sz _ (by simp), hk⟩
end
end Kx
set_option maxHeartbeats 2000000
namespace Kx
open PySem PySem.Spec L2 DL
def GN (x : D) : Prop := ∃ n : Int, x = .int n ∧ 1 ≤ n ∧ n ≤ 1000000
theorem rp_part {o : Option (List Int)} (h : ∀ qs, o = some qs → (∀ l ∈ qs, isLtr l) ∧ qs.length ≤ 700000) : RpOkS (partD o) := by
  cases o with
  | none => exact (rpB_ok (d := .non) (by decide +kernel)).s
  | some qs => exact rp_letters (h qs rfl).1 (h qs rfl).2
section
variable {P : Program} {w : World} {K : PySem.W.Frag} {mg : Str → Option Value} {base : Heap} {W : Wd}
theorem ok_law {CL CN : Addr} (g : Gb K mg) (hW : W.K = K)
    (c_law_deck : CalD P w K mg base W 1 "_law_deck" ["script", "number"] (spDeck W.S)) (c_law_modulus : CalD P w K mg base W 3 "_law_modulus" ["deck"] spMod) (c_law_whole : CalD P w K mg base W 4 "_law_whole" ["deck", "p"] spWhole)
    (c_law_form : CalD P w K mg base W 1 "_law_form" ["p", "row"] spLForm) (c_law_draw : CalD P w K mg base W 1 "_law_draw" ["deck", "many"] (spDraw DK)) (c_law_pick : CalD P w K mg base W 2 "_law_pick" ["deck", "some"] spPick)
    (c_lamp_part : CalDX P w K mg base W 5 "lamp_part" ["p", "row", "n"] (spPart CN CL)) (k_lamp_part_npr : KwDX P w K mg base W 5 "lamp_part" ["p", "row", "n"] ["n", "p", "row"] pm231 (spPart CN CL))
    (c_law_is_part_told : CalD P w K mg base W 3 "_law_is_part_told" ["p", "row", "n", "part"] spPartTold) (c_law_is_refused : CalDG P w K mg base W 9 "_law_is_refused" ["deck", "p", "row", "n"] spRefused)
    (c_law_is_lamp_part : CalD P w K mg base W 2 "_law_is_lamp_part" ["p", "form", "n", "part"] spIsPart) : ∀ (f : Addr) (fd : FuncData), L2.Fun K "law" "law" s_law f fd → FnDG P w K mg base W 11 f fd ["script"] (spLaw W) := fun f fd F =>
  okDG (k := 10) F sc_law (fun ds M k e ⟨_, _, h, _⟩ => by rw [h]; rfl) fun cdv A outer s H E F0 ds M kk e hr hgu ⟨b, ns, hd, hS, hk⟩ => by
    subst hd
    refine ⟨_, (psd_cons (psd_set 1 sc_law.nd (pd_cal c_law_deck (hr.mono (by omega)) (pda_cons (pd_var 0) (pda_cons pd_int pda_nil)))) (psd_cons (psd_dput (hu1 hr) (pd_var 1) pd_str (pd_lst (pda_cons pd_str (pda_cons pd_str (pda_cons pd_str pda_nil))))) (psd_cons (psd_seal 1 "left" "mixed" "draws" (psd_for PassesOwn.never rfl (pid_range1 g.range_ (pda_cons pd_int pda_nil)) (pgd_name 2 sc_law.nd) (psd_cons (psd_set 3 sc_law.nd (pd_cal c_law_modulus (hr.mono (by omega)) (pda_cons (pd_var 1) pda_nil))) (psd_cons (psd_asg (pd_cal c_law_whole (hr.mono (by omega)) (pda_cons (pd_var 1) (pda_cons (pd_var 3) pda_nil))) (pgd_tup rfl (pgsd_cons (pgd_name 7 sc_law.nd) (pgsd_cons (pgd_name 8 sc_law.nd) pgsd_nil)))) (psd_cons (psd_set 4 sc_law.nd (pd_callB cd_abs rfl g.abs_ PyProof.Rows.Boot.«abs» (pda_cons (pd_ix (pd_cal c_law_form (hr.mono (by omega)) (pda_cons (pd_var 3) (pda_cons (pd_var 7) pda_nil))) pd_int) pda_nil))) (psd_cons (psd_set 5 sc_law.nd (pd_lst (pda_cons (pd_var 8) (pda_cons (pd_var 8) (pda_cons pd_int (pda_cons pd_int (pda_cons pd_int (pda_cons (pd_callB (cd_max rfl) rfl g.max_ PyProof.Rows.Boot.«max» (pda_cons pd_int (pda_cons (pd_var 4) pda_nil))) (pda_cons (pd_op od_add pd_int (pd_cal c_law_draw (hr.mono (by omega)) (pda_cons (pd_var 1) (pda_cons pd_int pda_nil)))) (pda_cons (pd_var 3) (pda_cons (pd_op od_pow pd_int pd_int) (pda_cons (pd_op od_add pd_int (pd_cal c_law_draw (hr.mono (by omega)) (pda_cons (pd_var 1) (pda_cons (pd_op od_pow pd_int pd_int) pda_nil)))) (pda_cons (pd_op od_mul pd_int (pd_var 8)) pda_nil))))))))))))) (psd_one (psd_for PassesOwn.never rfl (pid_list hW.symm (pd_lst (pda_cons (pd_var 8) (pda_cons (pd_cal c_law_pick (hr.mono (by omega)) (pda_cons (pd_var 1) (pda_cons (pd_var 5) pda_nil))) (pda_cons (pd_cal c_law_pick (hr.mono (by omega)) (pda_cons (pd_var 1) (pda_cons (pd_var 5) pda_nil))) (pda_cons (pd_cal c_law_pick (hr.mono (by omega)) (pda_cons (pd_var 1) (pda_cons (pd_var 5) pda_nil))) pda_nil)))))) (pgd_name 6 sc_law.nd) (psd_cons (psd_set 9 sc_law.nd (pd_ifExp (ptd_cmp (od_eq hr.units0) (pd_cal c_law_draw (hr.mono (by omega)) (pda_cons (pd_var 1) (pda_cons pd_int pda_nil))) pd_int (nomark _)) (pd_calN c_lamp_part (hr.mono (by omega)) (pda_cons (pd_var 3) (pda_cons (pd_var 7) (pda_cons (pd_var 6) pda_nil)))) (pd_calKN k_lamp_part_npr (hr.mono (by omega)) (pkd_cons (pd_var 6) (pkd_cons (pd_var 3) (pkd_cons (pd_var 7) pkd_nil)))))) (psd_cons (psd_if (ptd_or (ptd_not (ptd_val (pd_cal c_law_is_part_told (hr.mono (by omega)) (pda_cons (pd_var 3) (pda_cons (pd_var 7) (pda_cons (pd_var 6) (pda_cons (pd_var 9) pda_nil))))))) (pwd_or1 (ptd_not (ptd_val (pd_calG c_law_is_refused (hr.mono (by omega)) hgu (pda_cons (pd_var 1) (pda_cons (pd_var 3) (pda_cons (pd_var 7) (pda_cons (pd_var 6) pda_nil))))))))) (psd_one (psd_ret pd_bl)) psd_nil) (psd_cons (psd_if (ptd_cmp (od_ne hr.units0) (pd_callB (cd_reprS g.sys_ hgu hr.units) rfl g.repr_ PyProof.Rows.Boot.«repr» (pda_cons (pd_calN c_lamp_part (hr.mono (by omega)) (pda_cons (pd_var 3) (pda_cons (pd_var 7) (pda_cons (pd_var 6) pda_nil)))) pda_nil)) (pd_callB (cd_reprS g.sys_ hgu hr.units) rfl g.repr_ PyProof.Rows.Boot.«repr» (pda_cons (pd_var 9) pda_nil)) (nomark _)) (psd_one (psd_ret pd_bl)) psd_nil) (psd_cons (psd_set 10 sc_law.nd (pd_cal c_law_pick (hr.mono (by omega)) (pda_cons (pd_var 1) (pda_cons (pd_lst (pda_cons pd_int (pda_cons pd_int (pda_cons (pd_var 8) pda_nil)))) pda_nil)))) (psd_one (psd_if (ptd_and (ptd_cmp od_notN (pd_var 9) pd_non (nomark _)) (pwd_and (ptd_cmp od_le (pd_callB cd_len rfl g.len_ PyProof.Rows.Boot.«len» (pda_cons (pd_var 9) pda_nil)) pd_int (nomark _)) (pwd_and1 (ptd_cmp od_le (pd_op od_mul (pd_var 6) (pd_var 10)) (pd_op od_pow pd_int pd_int) (nomark _))))) (psd_cons (psd_set 11 sc_law.nd (pd_calN c_lamp_part (hr.mono (by omega)) (pda_cons (pd_var 3) (pda_cons (pd_var 9) (pda_cons (pd_var 10) pda_nil))))) (psd_cons (psd_if (ptd_not (ptd_val (pd_cal c_law_is_part_told (hr.mono (by omega)) (pda_cons (pd_var 3) (pda_cons (pd_var 9) (pda_cons (pd_var 10) (pda_cons (pd_var 11) pda_nil))))))) (psd_one (psd_ret pd_bl)) psd_nil) (psd_one (psd_if (ptd_and (ptd_cmp od_notN (pd_var 11) pd_non (nomark _)) (pwd_and1 (ptd_not (ptd_val (pd_cal c_law_is_lamp_part (hr.mono (by omega)) (pda_cons (pd_var 3) (pda_cons (pd_cal c_law_form (hr.mono (by omega)) (pda_cons (pd_var 3) (pda_cons (pd_var 7) pda_nil))) (pda_cons (pd_op od_mul (pd_var 6) (pd_var 10)) (pda_cons (pd_cal c_law_form (hr.mono (by omega)) (pda_cons (pd_var 3) (pda_cons (pd_var 11) pda_nil))) pda_nil))))))))) (psd_one (psd_ret pd_bl)) psd_nil)))) psd_nil)))))))))))))) (psd_one (psd_ret pd_bl))))), ?_⟩
    have sz : ∀ n : Nat, n ≤ 1000 → n ≤ sizeLine := fun n h => by rw [sizeLine_eq]; omega
    refine ⟨b, ns, rfl, hS, fun a l cells m hl0 ha0 hal hc => ?_⟩
    dsimp only
    refine rd_dput0 (a := a) (L := [(.inr "left", .ref l), (.inr "mixed", .int m), (.inr "draws", .int 0)]) (y := .str "words") (kk := .inr "words") (v := .lst WS) (fun k hk => ⟨sz _ (by simp), hk⟩) (fun k hk => hk) (fun k hk => hk) rfl updM_same (by rw [sizeLine_eq]; simp) ?_
    refine ⟨l, cells, m, 0, [(.inr "words", .lst WS)], updM_same, ?_, hc, ?_⟩
    · rw [updM_ne (fun z => hal z.symm), updM_ne (fun z => hal z.symm)]; exact updM_same
    generalize hMM : updM (updM _ l (.part a)) a _ = M2
    have hM : M2 a = some (.deck DK) := by rw [← hMM]; exact updM_same
    refine ⟨by decide, by decide, ?_⟩
    refine for_of (fun r δ M' => M' = M2 ∧ ∃ y2 y3 y4 y5 y6 y7 y8 y9 y10 y11 : Option D, δ = [some (.ref b), some (.ref a), y2, y3, y4, y5, y6, y7, y8, y9, y10, y11]) ?_ ?_ _ _ _ ⟨rfl, _, _, _, _, _, _, _, _, _, _, rfl⟩
    · rintro x r δ M' K' ⟨rfl, y2, y3, y4, y5, y6, y7, y8, y9, y10, y11, rfl⟩ hK
      refine rd_seqG (fun x => ∃ p : Int, x = .int p ∧ 2 ≤ p ∧ p ≤ 1000) (fun k hk => ⟨a, rfl, hM, fun p h1 h2 => hk _ ⟨p, rfl, h1, h2⟩⟩) ?_
      rintro _ ⟨p, rfl, hp, hp2⟩
      refine ⟨a, p, rfl, hM, fun ls m hl hlen m1 m5 => ⟨rfl, rd_tgt2 ?_⟩⟩
      dsimp only
      have we := end_small (p := p) (by omega) hl hlen
      have fc : ∀ (qs : List Int), (∀ l ∈ qs, isLtr l) → qs.length ≤ 700000 → ∀ (k : DKt) (e : XKD), k (formD (walkW p qs).1 (FL (walkW p qs).2)) M' → spLForm [.int p, .tup (qs.map D.int)] M' k e := fun qs _ h k e hk => ⟨p, qs, rfl, by omega, by omega, by
        show k (formT p qs) M'
        rw [formT_FL]; exact hk⟩
      have pa : ∀ (qs : List Int) (n : Int), (∀ l ∈ qs, isLtr l) → qs.length ≤ 60 → 1 ≤ n → n < 2 ^ 62 → ∀ (k : DKt) (e : XKD), k (partD (partL p qs n)) M' → spPart CN CL [.int p, .tup (qs.map D.int), .int n] M' k e := fun qs n h1 h2 h3 h4 k e hk => by
        have o1 : okMod (.int p) = true := by simp [okMod, hp, hp2]
        have o2 := ltr_lets h1
        have o3 : okN (.int n) = true := decide_eq_true h3
        refine ⟨_, _, _, rfl, trivial, gd_letters (by omega), trivial, (fun z => by rw [o1] at z; cases z), (fun _ z => by rw [o2] at z; cases z), (fun _ _ z => by rw [o3] at z; cases z), fun i ls2 m2 e1 e2 e3 _ _ _ => ?_⟩
        cases e1
        cases e3
        have e4 : qs = ls2 := by
          have e2 : qs.map D.int = ls2.map D.int := by injection e2
          have := congrArg intsOf e2
          rw [intsOf_ints, intsOf_ints] at this
          simpa using this
        subst e4
        exact ⟨h2, h4, hk⟩
      refine rd_seqx (x := .int ((walkW p ls).1.natAbs : Int)) (fun k hk => ?_) ?_
      · refine rd_absI (walkW p ls).1 (fun k hk => ?_) k hk
        refine rd_op (r := DL.rIx) (x := formD (walkW p ls).1 (FL (walkW p ls).2)) (y := .int 0) k (fun k hk => fc ls hl (by omega) k X0 hk) (fun k hk => ?_) hk
        exact hk
      refine rd_seqG (fun x => ∃ xs, x = .lst xs ∧ AllG GN 11 xs) (fun k hk => ?_) ?_
      · refine rd_lstU (G := GN) 11 (by omega) ?_ k (fun xs hx => hk _ ⟨xs, rfl, hx⟩)
        refine rd_consU (fun k hk => hk _ ⟨m, rfl, by omega, by omega⟩) ?_
        refine rd_consU (fun k hk => hk _ ⟨m, rfl, by omega, by omega⟩) ?_
        refine rd_consU (fun k hk => hk _ ⟨1, rfl, by omega, by omega⟩) ?_
        refine rd_consU (fun k hk => hk _ ⟨2, rfl, by omega, by omega⟩) ?_
        refine rd_consU (fun k hk => hk _ ⟨3, rfl, by omega, by omega⟩) ?_
        refine rd_consU (fun k hk => rd_max2 1 ((walkW p ls).1.natAbs : Int) (fun k hk => hk) (fun k hk => hk) k (hk _ ⟨_, rfl, by omega, by omega⟩)) ?_
        refine rd_consU (fun k hk => ⟨a, 12, rfl, hM, by omega, by omega, fun j j0 j1 => hk _ ⟨1 + j, rfl, by omega, by omega⟩⟩) ?_
        refine rd_consU (fun k hk => hk _ ⟨p, rfl, by omega, by omega⟩) ?_
        refine rd_consU (fun k hk => ⟨⟨by decide, by decide, by decide⟩, hk _ ⟨10 ^ 6, rfl, by decide, by decide⟩⟩) ?_
        refine rd_consU (fun k hk => ⟨⟨by decide, by decide, by decide⟩, a, 10 ^ 6, rfl, hM, by decide, by decide, fun j j0 j1 => hk _ ⟨1 + j, rfl, by omega, by omega⟩⟩) ?_
        refine rd_consU (fun k hk => rd_mulI 2 m (fun k hk => hk) (fun k hk => hk) (mulW (by omega) (by omega)) k (hk _ ⟨2 * m, rfl, by omega, by omega⟩)) ?_
        exact fun k hk => rd_nilU k hk
      rintro _ ⟨some_, rfl, hsome⟩
      have gpick : ∀ k : DKt, (∀ x, GN x → k x M') → spPick [.ref a, .lst some_] M' k X0 := fun k hk => ⟨a, _, rfl, hM, some_, .inl rfl, by have := hsome.1; omega, by have := hsome.1; omega, fun x hx => hk x (hsome.2 x hx)⟩
      refine rd_itLG (G := AllG GN 4) (fun k hk => ?_) _ fun xs hxs => ?_
      · refine rd_lstU (G := GN) 4 (by omega) ?_ k hk
        refine rd_consU (fun k hk => hk _ ⟨m, rfl, by omega, by omega⟩) ?_
        refine rd_consU (fun k hk => gpick k hk) ?_
        refine rd_consU (fun k hk => gpick k hk) ?_
        refine rd_consU (fun k hk => gpick k hk) ?_
        exact fun k hk => rd_nilU k hk
      refine for_of (fun r δ M'' => M'' = M' ∧ (∀ x ∈ r, GN x) ∧ ∃ y6 y9 y10 y11 : Option D, δ = [some (.ref b), some (.ref a), some x, some (.int p), some (.int ((walkW p ls).1.natAbs : Int)), some (.lst some_), y6, some (.tup (ls.map D.int)), some (.int m), y9, y10, y11]) ?_ ?_ _ _ _ ⟨rfl, hxs.2, _, _, _, _, rfl⟩
      · rintro nx r δ M'' K2 ⟨rfl, hG, y6, y9, y10, y11, rfl⟩ hK2
        obtain ⟨n, rfl, n1, n2⟩ := hG nx List.mem_cons_self
        have hG2 : ∀ x ∈ r, GN x := fun x hx => hG x (List.mem_cons_of_mem _ hx)
        obtain ⟨pr1, pr2⟩ := part_right hp hp2 hl hlen n1
        refine rd_seqx (x := partD (partL p ls n)) (fun k hk => rd_ifAny (fun k hk => ⟨a, 2, rfl, hM, by omega, by omega, fun j j0 j1 => hk _⟩) (pa ls n hl hlen n1 (by omega) k X0 hk) (pa ls n hl hlen n1 (by omega) k X0 hk)) ?_
        refine rd_cut false (fun k hk => rd_or false false (fun k hk => rd_not true (fun k hk => ⟨p, ls, n, rfl, hp, hp2, hl, hlen, n1, by omega, hk⟩) k hk) (fun _ k hk => rd_not true (fun k hk => ⟨a, p, ls, n, rfl, hM, hp, hp2, hl, hlen, n1, by omega, hk⟩) k hk) k hk) (fun h => by cases h) fun _ => ?_
        refine rd_cut false (fun k hk => rd_same (rp_part fun qs hq => ⟨(pr2 qs hq).ltr, (pr2 qs hq).len⟩) (fun k hk => pa ls n hl hlen n1 (by omega) k X0 hk) (fun k hk => hk) k hk) (fun h => by cases h) fun _ => ?_
        refine rd_seqG (fun x => ∃ t : Int, x = .int t ∧ 1 ≤ t ∧ t ≤ 5) (fun k hk => ?_) ?_
        · refine rd_pickU (G := fun x => ∃ t : Int, x = .int t ∧ 1 ≤ t ∧ t ≤ 5) 3 (by omega) (by omega) rfl hM ?_ k hk
          refine rd_consU (fun k hk => hk _ ⟨2, rfl, by omega, by omega⟩) ?_
          refine rd_consU (fun k hk => hk _ ⟨3, rfl, by omega, by omega⟩) ?_
          refine rd_consU (fun k hk => hk _ ⟨m, rfl, by omega, by omega⟩) ?_
          exact fun k hk => rd_nilU k hk
        rintro _ ⟨t, rfl, t1, t5⟩
        have fin : ∀ y11, K2 [some (.ref b), some (.ref a), some x, some (.int p), some (.int ((walkW p ls).1.natAbs : Int)), some (.lst some_), some (.int n), some (.tup (ls.map D.int)), some (.int m), some (partD (partL p ls n)), some (.int t), y11] M'' := fun y11 => hK2 _ _ ⟨rfl, hG2, _, _, _, _, rfl⟩
        cases hq : partL p ls n with
        | none =>
          rw [hq] at fin
          exact rd_if0 false (fun k hk => rd_and false false (fun k hk => hk) (fun h => by cases h) k hk) (fun h => by cases h) fun _ => fin _
        | some qs =>
          rw [hq] at fin
          obtain ⟨q1, q2, q3, q4, q5, q6⟩ := pr2 qs hq
          refine rd_if0 (true && (decide (((qs.map D.int).length : Int) ≤ 60) && decide (n * t ≤ 1000000))) (fun k hk => rd_and true _ (fun k hk => hk) (fun _ k hk => rd_and (decide (((qs.map D.int).length : Int) ≤ 60)) (decide (n * t ≤ 1000000)) (fun k hk => hk) (fun _ k hk => ?_) k hk) k hk) (fun hb => ?_) fun _ => fin _
          · unfold dTst
            exact rd_op (x := .int (n * t)) (y := .int (10 ^ 6)) _ (fun k hk => rd_mulI n t (fun k hk => hk) (fun k hk => hk) (mulW (by omega) (by omega)) k hk) (fun k hk => ⟨⟨by decide, by decide, by decide⟩, hk⟩) hk
          have hql : qs.length ≤ 60 := by simp at hb; omega
          have hnt : n * t ≤ 1000000 := by simp at hb; omega
          have hnt1 : 1 ≤ n * t := by have := Int.mul_le_mul_of_nonneg_left t1 (show 0 ≤ n by omega); omega
          obtain ⟨_, pr4⟩ := part_right hp hp2 q2 hql t1
          refine rd_seqx (x := partD (partL p qs t)) (fun k hk => pa qs t q2 hql t1 (by omega) k X0 hk) ?_
          refine rd_cut false (fun k hk => rd_not true (fun k hk => ⟨p, qs, t, rfl, hp, hp2, q2, hql, t1, by omega, hk⟩) k hk) (fun h => by cases h) fun _ => ?_
          have fin2 := fin (some (partD (partL p qs t)))
          cases hs : partL p qs t with
          | none =>
            rw [hs] at fin2
            exact rd_if0 false (fun k hk => rd_and false false (fun k hk => hk) (fun h => by cases h) k hk) (fun h => by cases h) fun _ => fin2
          | some ss =>
            rw [hs] at fin2
            obtain ⟨u1, u2, u3, u4, u5, u6⟩ := pr4 ss hs
            have inW : ∀ (zs : List Int), (∀ l ∈ zs, isLtr l) → ∀ r, 0 ≤ getI (walkW p zs).2 r ∧ getI (walkW p zs).2 r < p := fun zs hz => getI_small (by omega) fun q hq => ((walk_small (p := p) (by omega) hz).2 q hq).2
            obtain ⟨v1, v2⟩ := part_comp (by omega) n1 t1 (inW ls hl) (inW qs q2) q4 q5 u4 u5
            refine rd_if0 (true && false) (fun k hk => rd_and true false (fun k hk => hk) (fun _ k hk => rd_not true (fun k hk => ?_) k hk) k hk) (fun h => by cases h) fun _ => fin2
            unfold dTst
            refine rd_call _ (ds := [.int p, formD (walkW p ls).1 (FL (walkW p ls).2), .int (n * t), formD (walkW p ss).1 (FL (walkW p ss).2)]) (fun k hk => ?_) ⟨p, _, _, n * t, _, _, rfl, by omega, u6, fl_small (by omega) hp2 u2, hnt1, by omega, part_end v1 we hnt1, v1, v2, hk⟩
            refine rd_acons _ _ (fun k hk => hk) (fun k hk => rd_acons _ _ (fun k hk => fc ls hl (by omega) k X0 hk) (fun k hk => rd_acons _ _ (fun k hk => rd_mulI n t (fun k hk => hk) (fun k hk => hk) (mulW (by omega) (by omega)) k hk) (fun k hk => rd_acons _ _ (fun k hk => fc ss u2 u3 k X0 hk) (fun k hk => hk) k hk) k hk) k hk) k hk
      · rintro δ M'' ⟨rfl, _, y6, y9, y10, y11, rfl⟩
        exact hK _ _ ⟨rfl, _, _, _, _, _, _, _, _, _, _, rfl⟩
    · rintro δ M' ⟨rfl, y2, y3, y4, y5, y6, y7, y8, y9, y10, y11, rfl⟩
      exact hk _
end
end Kx
set_option maxHeartbeats 0
namespace Kx
open PySem PySem.Spec L2 DL
def tq (K : PySem.W.Frag) : List (Addr × Str) := tf.map fun p => ((He.cT K p).2, p.1 ++ ".<locals>." ++ "<lambda>")
section
variable {w : World} {h : Heap} {K : PySem.W.Frag} {mg : Str → Option Value}
theorem D_is_whole (X : K.In h) (G : h.Ns mainGlobals mg) (c : He.SaysX fa fn [] tf ex w h K) : DefAt K mg "is_whole" s_is_whole ["thing"] := by
  obtain ⟨fd, F⟩ := c.t.d.def_ 0 (d := d_is_whole) rfl
  exact ⟨_, fd, He.glo_ok X G (c.t.d.fact 0 (f := .glo "is_whole") rfl), He5.fun_of F, F.bindsN fun _ _ _ _ _ _ us hl => match us, hl with | [_], _ => rfl⟩
theorem D_need_standings (X : K.In h) (G : h.Ns mainGlobals mg) (c : He.SaysX fa fn [] tf ex w h K) : DefAt K mg "need_standings" s_need_standings ["thing"] := by
  obtain ⟨fd, F⟩ := c.t.d.def_ 1 (d := d_need_standings) rfl
  exact ⟨_, fd, He.glo_ok X G (c.t.d.fact 1 (f := .glo "need_standings") rfl), He5.fun_of F, F.bindsN fun _ _ _ _ _ _ us hl => match us, hl with | [_], _ => rfl⟩
theorem D_is_letters (X : K.In h) (G : h.Ns mainGlobals mg) (c : He.SaysX fa fn [] tf ex w h K) : DefAt K mg "is_letters" s_is_letters ["thing"] := by
  obtain ⟨fd, F⟩ := c.t.d.def_ 2 (d := d_is_letters) rfl
  exact ⟨_, fd, He.glo_ok X G (c.t.d.fact 2 (f := .glo "is_letters") rfl), He5.fun_of F, F.bindsN fun _ _ _ _ _ _ us hl => match us, hl with | [_], _ => rfl⟩
theorem D_need_letters (X : K.In h) (G : h.Ns mainGlobals mg) (c : He.SaysX fa fn [] tf ex w h K) : DefAt K mg "need_letters" s_need_letters ["thing"] := by
  obtain ⟨fd, F⟩ := c.t.d.def_ 3 (d := d_need_letters) rfl
  exact ⟨_, fd, He.glo_ok X G (c.t.d.fact 3 (f := .glo "need_letters") rfl), He5.fun_of F, F.bindsN fun _ _ _ _ _ _ us hl => match us, hl with | [_], _ => rfl⟩
theorem D_walked_lamps (X : K.In h) (G : h.Ns mainGlobals mg) (c : He.SaysX fa fn [] tf ex w h K) : DefAt K mg "walked_lamps" s_walked_lamps ["p", "row"] := by
  obtain ⟨fd, F⟩ := c.t.d.def_ 4 (d := d_walked_lamps) rfl
  exact ⟨_, fd, He.glo_ok X G (c.t.d.fact 4 (f := .glo "walked_lamps") rfl), He5.fun_of F, F.bindsN fun _ _ _ _ _ _ us hl => match us, hl with | [_, _], _ => rfl⟩
theorem D_lamps_added (X : K.In h) (G : h.Ns mainGlobals mg) (c : He.SaysX fa fn [] tf ex w h K) : DefAt K mg "lamps_added" s_lamps_added ["p", "one", "other", "number"] := by
  obtain ⟨fd, F⟩ := c.t.d.def_ 5 (d := d_lamps_added) rfl
  exact ⟨_, fd, He.glo_ok X G (c.t.d.fact 5 (f := .glo "lamps_added") rfl), He5.fun_of F, F.bindsN fun _ _ _ _ _ _ us hl => match us, hl with | [_, _, _, _], _ => rfl⟩
theorem D_lamps_moved (X : K.In h) (G : h.Ns mainGlobals mg) (c : He.SaysX fa fn [] tf ex w h K) : DefAt K mg "lamps_moved" s_lamps_moved ["lamps", "by"] := by
  obtain ⟨fd, F⟩ := c.t.d.def_ 6 (d := d_lamps_moved) rfl
  exact ⟨_, fd, He.glo_ok X G (c.t.d.fact 6 (f := .glo "lamps_moved") rfl), He5.fun_of F, F.bindsN fun _ _ _ _ _ _ us hl => match us, hl with | [_, _], _ => rfl⟩
theorem D_fold_of (X : K.In h) (G : h.Ns mainGlobals mg) (c : He.SaysX fa fn [] tf ex w h K) : DefAt K mg "fold_of" s_fold_of ["p", "size", "lamps"] := by
  obtain ⟨fd, F⟩ := c.t.d.def_ 7 (d := d_fold_of) rfl
  exact ⟨_, fd, He.glo_ok X G (c.t.d.fact 7 (f := .glo "fold_of") rfl), He5.fun_of F, F.bindsN fun _ _ _ _ _ _ us hl => match us, hl with | [_, _, _], _ => rfl⟩
theorem D_lamps_over (X : K.In h) (G : h.Ns mainGlobals mg) (c : He.SaysX fa fn [] tf ex w h K) : DefAt K mg "lamps_over" s_lamps_over ["p", "lamps", "d"] := by
  obtain ⟨fd, F⟩ := c.t.d.def_ 8 (d := d_lamps_over) rfl
  exact ⟨_, fd, He.glo_ok X G (c.t.d.fact 8 (f := .glo "lamps_over") rfl), He5.fun_of F, F.bindsN fun _ _ _ _ _ _ us hl => match us, hl with | [_, _, _], _ => rfl⟩
theorem D_turning_letters (X : K.In h) (G : h.Ns mainGlobals mg) (c : He.SaysX fa fn [] tf ex w h K) : DefAt K mg "turning_letters" s_turning_letters ["p", "standing"] := by
  obtain ⟨fd, F⟩ := c.t.d.def_ 9 (d := d_turning_letters) rfl
  exact ⟨_, fd, He.glo_ok X G (c.t.d.fact 9 (f := .glo "turning_letters") rfl), He5.fun_of F, F.bindsN fun _ _ _ _ _ _ us hl => match us, hl with | [_, _], _ => rfl⟩
theorem D_best_way (X : K.In h) (G : h.Ns mainGlobals mg) (c : He.SaysX fa fn [] tf ex w h K) : DefAt K mg "best_way" s_best_way ["end", "lamps"] := by
  obtain ⟨fd, F⟩ := c.t.d.def_ 10 (d := d_best_way) rfl
  exact ⟨_, fd, He.glo_ok X G (c.t.d.fact 10 (f := .glo "best_way") rfl), He5.fun_of F, F.bindsN fun _ _ _ _ _ _ us hl => match us, hl with | [_, _], _ => rfl⟩
theorem D_shortest_letters (X : K.In h) (G : h.Ns mainGlobals mg) (c : He.SaysX fa fn [] tf ex w h K) : DefAt K mg "shortest_letters" s_shortest_letters ["p", "end", "lamps"] := by
  obtain ⟨fd, F⟩ := c.t.d.def_ 11 (d := d_shortest_letters) rfl
  exact ⟨_, fd, He.glo_ok X G (c.t.d.fact 11 (f := .glo "shortest_letters") rfl), He5.fun_of F, F.bindsN fun _ _ _ _ _ _ us hl => match us, hl with | [_, _, _], _ => rfl⟩
theorem D_divided_lamps (X : K.In h) (G : h.Ns mainGlobals mg) (c : He.SaysX fa fn [] tf ex w h K) : DefAt K mg "divided_lamps" s_divided_lamps ["p", "lamps", "n"] := by
  obtain ⟨fd, F⟩ := c.t.d.def_ 12 (d := d_divided_lamps) rfl
  exact ⟨_, fd, He.glo_ok X G (c.t.d.fact 12 (f := .glo "divided_lamps") rfl), He5.fun_of F, F.bindsN fun _ _ _ _ _ _ us hl => match us, hl with | [_, _, _], _ => rfl⟩
theorem D_lamp_part (X : K.In h) (G : h.Ns mainGlobals mg) (c : He.SaysX fa fn [] tf ex w h K) : DefAt K mg "lamp_part" s_lamp_part ["p", "row", "n"] := by
  obtain ⟨fd, F⟩ := c.t.d.def_ 13 (d := d_lamp_part) rfl
  exact ⟨_, fd, He.glo_ok X G (c.t.d.fact 13 (f := .glo "lamp_part") rfl), He5.fun_of F, F.bindsN fun _ _ _ _ _ _ us hl => match us, hl with | [_, _, _], _ => rfl⟩
theorem D_law_deck (X : K.In h) (G : h.Ns mainGlobals mg) (c : He.SaysX fa fn [] tf ex w h K) : DefAt K mg "_law_deck" s_law_deck ["script", "number"] := by
  obtain ⟨fd, F⟩ := c.t.d.def_ 14 (d := d_law_deck) rfl
  exact ⟨_, fd, He.glo_ok X G (c.t.d.fact 14 (f := .glo "_law_deck") rfl), He5.fun_of F, F.bindsN fun _ _ _ _ _ _ us hl => match us, hl with | [_, _], _ => rfl⟩
theorem D_law_draw (X : K.In h) (G : h.Ns mainGlobals mg) (c : He.SaysX fa fn [] tf ex w h K) : DefAt K mg "_law_draw" s_law_draw ["deck", "many"] := by
  obtain ⟨fd, F⟩ := c.t.d.def_ 15 (d := d_law_draw) rfl
  exact ⟨_, fd, He.glo_ok X G (c.t.d.fact 15 (f := .glo "_law_draw") rfl), He5.fun_of F, F.bindsN fun _ _ _ _ _ _ us hl => match us, hl with | [_, _], _ => rfl⟩
theorem D_law_pick (X : K.In h) (G : h.Ns mainGlobals mg) (c : He.SaysX fa fn [] tf ex w h K) : DefAt K mg "_law_pick" s_law_pick ["deck", "some"] := by
  obtain ⟨fd, F⟩ := c.t.d.def_ 16 (d := d_law_pick) rfl
  exact ⟨_, fd, He.glo_ok X G (c.t.d.fact 16 (f := .glo "_law_pick") rfl), He5.fun_of F, F.bindsN fun _ _ _ _ _ _ us hl => match us, hl with | [_, _], _ => rfl⟩
theorem D_law_turned (X : K.In h) (G : h.Ns mainGlobals mg) (c : He.SaysX fa fn [] tf ex w h K) : DefAt K mg "_law_turned" s_law_turned ["deck", "thing"] := by
  obtain ⟨fd, F⟩ := c.t.d.def_ 17 (d := d_law_turned) rfl
  exact ⟨_, fd, He.glo_ok X G (c.t.d.fact 17 (f := .glo "_law_turned") rfl), He5.fun_of F, F.bindsN fun _ _ _ _ _ _ us hl => match us, hl with | [_, _], _ => rfl⟩
theorem D_law_bent (X : K.In h) (G : h.Ns mainGlobals mg) (c : He.SaysX fa fn [] tf ex w h K) : DefAt K mg "_law_bent" s_law_bent ["deck", "thing"] := by
  obtain ⟨fd, F⟩ := c.t.d.def_ 18 (d := d_law_bent) rfl
  exact ⟨_, fd, He.glo_ok X G (c.t.d.fact 18 (f := .glo "_law_bent") rfl), He5.fun_of F, F.bindsN fun _ _ _ _ _ _ us hl => match us, hl with | [_, _], _ => rfl⟩
theorem D_law_common (X : K.In h) (G : h.Ns mainGlobals mg) (c : He.SaysX fa fn [] tf ex w h K) : DefAt K mg "_law_common" s_law_common ["n", "p"] := by
  obtain ⟨fd, F⟩ := c.t.d.def_ 19 (d := d_law_common) rfl
  exact ⟨_, fd, He.glo_ok X G (c.t.d.fact 19 (f := .glo "_law_common") rfl), He5.fun_of F, F.bindsN fun _ _ _ _ _ _ us hl => match us, hl with | [_, _], _ => rfl⟩
theorem D_law_fold (X : K.In h) (G : h.Ns mainGlobals mg) (c : He.SaysX fa fn [] tf ex w h K) : DefAt K mg "_law_fold" s_law_fold ["p", "form"] := by
  obtain ⟨fd, F⟩ := c.t.d.def_ 20 (d := d_law_fold) rfl
  exact ⟨_, fd, He.glo_ok X G (c.t.d.fact 20 (f := .glo "_law_fold") rfl), He5.fun_of F, F.bindsN fun _ _ _ _ _ _ us hl => match us, hl with | [_, _], _ => rfl⟩
theorem D_law_form (X : K.In h) (G : h.Ns mainGlobals mg) (c : He.SaysX fa fn [] tf ex w h K) : DefAt K mg "_law_form" s_law_form ["p", "row"] := by
  obtain ⟨fd, F⟩ := c.t.d.def_ 21 (d := d_law_form) rfl
  exact ⟨_, fd, He.glo_ok X G (c.t.d.fact 21 (f := .glo "_law_form") rfl), He5.fun_of F, F.bindsN fun _ _ _ _ _ _ us hl => match us, hl with | [_, _], _ => rfl⟩
theorem D_law_has_lamp_part (X : K.In h) (G : h.Ns mainGlobals mg) (c : He.SaysX fa fn [] tf ex w h K) : DefAt K mg "_law_has_lamp_part" s_law_has_lamp_part ["p", "form", "n"] := by
  obtain ⟨fd, F⟩ := c.t.d.def_ 22 (d := d_law_has_lamp_part) rfl
  exact ⟨_, fd, He.glo_ok X G (c.t.d.fact 22 (f := .glo "_law_has_lamp_part") rfl), He5.fun_of F, F.bindsN fun _ _ _ _ _ _ us hl => match us, hl with | [_, _, _], _ => rfl⟩
theorem D_law_is_integer (X : K.In h) (G : h.Ns mainGlobals mg) (c : He.SaysX fa fn [] tf ex w h K) : DefAt K mg "_law_is_integer" s_law_is_integer ["thing"] := by
  obtain ⟨fd, F⟩ := c.t.d.def_ 23 (d := d_law_is_integer) rfl
  exact ⟨_, fd, He.glo_ok X G (c.t.d.fact 23 (f := .glo "_law_is_integer") rfl), He5.fun_of F, F.bindsN fun _ _ _ _ _ _ us hl => match us, hl with | [_], _ => rfl⟩
theorem D_law_lamps_times (X : K.In h) (G : h.Ns mainGlobals mg) (c : He.SaysX fa fn [] tf ex w h K) : DefAt K mg "_law_lamps_times" s_law_lamps_times ["p", "form", "n"] := by
  obtain ⟨fd, F⟩ := c.t.d.def_ 24 (d := d_law_lamps_times) rfl
  exact ⟨_, fd, He.glo_ok X G (c.t.d.fact 24 (f := .glo "_law_lamps_times") rfl), He5.fun_of F, F.bindsN fun _ _ _ _ _ _ us hl => match us, hl with | [_, _, _], _ => rfl⟩
theorem D_law_is_lamp_part (X : K.In h) (G : h.Ns mainGlobals mg) (c : He.SaysX fa fn [] tf ex w h K) : DefAt K mg "_law_is_lamp_part" s_law_is_lamp_part ["p", "form", "n", "part"] := by
  obtain ⟨fd, F⟩ := c.t.d.def_ 25 (d := d_law_is_lamp_part) rfl
  exact ⟨_, fd, He.glo_ok X G (c.t.d.fact 25 (f := .glo "_law_is_lamp_part") rfl), He5.fun_of F, F.bindsN fun _ _ _ _ _ _ us hl => match us, hl with | [_, _, _, _], _ => rfl⟩
theorem D_law_is_lamp_row (X : K.In h) (G : h.Ns mainGlobals mg) (c : He.SaysX fa fn [] tf ex w h K) : DefAt K mg "_law_is_lamp_row" s_law_is_lamp_row ["thing"] := by
  obtain ⟨fd, F⟩ := c.t.d.def_ 26 (d := d_law_is_lamp_row) rfl
  exact ⟨_, fd, He.glo_ok X G (c.t.d.fact 26 (f := .glo "_law_is_lamp_row") rfl), He5.fun_of F, F.bindsN fun _ _ _ _ _ _ us hl => match us, hl with | [_], _ => rfl⟩
theorem D_law_lamp_row (X : K.In h) (G : h.Ns mainGlobals mg) (c : He.SaysX fa fn [] tf ex w h K) : DefAt K mg "_law_lamp_row" s_law_lamp_row ["deck", "most"] := by
  obtain ⟨fd, F⟩ := c.t.d.def_ 27 (d := d_law_lamp_row) rfl
  exact ⟨_, fd, He.glo_ok X G (c.t.d.fact 27 (f := .glo "_law_lamp_row") rfl), He5.fun_of F, F.bindsN fun _ _ _ _ _ _ us hl => match us, hl with | [_, _], _ => rfl⟩
theorem D_law_lamps_tried (X : K.In h) (G : h.Ns mainGlobals mg) (c : He.SaysX fa fn [] tf ex w h K) : DefAt K mg "_law_lamps_tried" s_law_lamps_tried ["call"] := by
  obtain ⟨fd, F⟩ := c.t.d.def_ 28 (d := d_law_lamps_tried) rfl
  exact ⟨_, fd, He.glo_ok X G (c.t.d.fact 28 (f := .glo "_law_lamps_tried") rfl), He5.fun_of F, F.bindsN fun _ _ _ _ _ _ us hl => match us, hl with | [_], _ => rfl⟩
theorem D_law_modulus (X : K.In h) (G : h.Ns mainGlobals mg) (c : He.SaysX fa fn [] tf ex w h K) : DefAt K mg "_law_modulus" s_law_modulus ["deck"] := by
  obtain ⟨fd, F⟩ := c.t.d.def_ 29 (d := d_law_modulus) rfl
  exact ⟨_, fd, He.glo_ok X G (c.t.d.fact 29 (f := .glo "_law_modulus") rfl), He5.fun_of F, F.bindsN fun _ _ _ _ _ _ us hl => match us, hl with | [_], _ => rfl⟩
theorem D_law_odd (X : K.In h) (G : h.Ns mainGlobals mg) (c : He.SaysX fa fn [] tf ex w h K) : DefAt K mg "_law_odd" s_law_odd ["deck"] := by
  obtain ⟨fd, F⟩ := c.t.d.def_ 30 (d := d_law_odd) rfl
  exact ⟨_, fd, He.glo_ok X G (c.t.d.fact 30 (f := .glo "_law_odd") rfl), He5.fun_of F, F.bindsN fun _ _ _ _ _ _ us hl => match us, hl with | [_], _ => rfl⟩
theorem D_law_odd_modulus (X : K.In h) (G : h.Ns mainGlobals mg) (c : He.SaysX fa fn [] tf ex w h K) : DefAt K mg "_law_odd_modulus" s_law_odd_modulus ["deck"] := by
  obtain ⟨fd, F⟩ := c.t.d.def_ 31 (d := d_law_odd_modulus) rfl
  exact ⟨_, fd, He.glo_ok X G (c.t.d.fact 31 (f := .glo "_law_odd_modulus") rfl), He5.fun_of F, F.bindsN fun _ _ _ _ _ _ us hl => match us, hl with | [_], _ => rfl⟩
theorem D_law_undone (X : K.In h) (G : h.Ns mainGlobals mg) (c : He.SaysX fa fn [] tf ex w h K) : DefAt K mg "_law_undone" s_law_undone ["row"] := by
  obtain ⟨fd, F⟩ := c.t.d.def_ 32 (d := d_law_undone) rfl
  exact ⟨_, fd, He.glo_ok X G (c.t.d.fact 32 (f := .glo "_law_undone") rfl), He5.fun_of F, F.bindsN fun _ _ _ _ _ _ us hl => match us, hl with | [_], _ => rfl⟩
theorem D_law_whole (X : K.In h) (G : h.Ns mainGlobals mg) (c : He.SaysX fa fn [] tf ex w h K) : DefAt K mg "_law_whole" s_law_whole ["deck", "p"] := by
  obtain ⟨fd, F⟩ := c.t.d.def_ 33 (d := d_law_whole) rfl
  exact ⟨_, fd, He.glo_ok X G (c.t.d.fact 33 (f := .glo "_law_whole") rfl), He5.fun_of F, F.bindsN fun _ _ _ _ _ _ us hl => match us, hl with | [_, _], _ => rfl⟩
theorem D_law_is_part_told (X : K.In h) (G : h.Ns mainGlobals mg) (c : He.SaysX fa fn [] tf ex w h K) : DefAt K mg "_law_is_part_told" s_law_is_part_told ["p", "row", "n", "part"] := by
  obtain ⟨fd, F⟩ := c.t.d.def_ 34 (d := d_law_is_part_told) rfl
  exact ⟨_, fd, He.glo_ok X G (c.t.d.fact 34 (f := .glo "_law_is_part_told") rfl), He5.fun_of F, F.bindsN fun _ _ _ _ _ _ us hl => match us, hl with | [_, _, _, _], _ => rfl⟩
theorem D_law_is_refused (X : K.In h) (G : h.Ns mainGlobals mg) (c : He.SaysX fa fn [] tf ex w h K) : DefAt K mg "_law_is_refused" s_law_is_refused ["deck", "p", "row", "n"] := by
  obtain ⟨fd, F⟩ := c.t.d.def_ 35 (d := d_law_is_refused) rfl
  exact ⟨_, fd, He.glo_ok X G (c.t.d.fact 35 (f := .glo "_law_is_refused") rfl), He5.fun_of F, F.bindsN fun _ _ _ _ _ _ us hl => match us, hl with | [_, _, _, _], _ => rfl⟩
theorem D_law (X : K.In h) (G : h.Ns mainGlobals mg) (c : He.SaysX fa fn [] tf ex w h K) : DefAt K mg "law" s_law ["script"] := by
  obtain ⟨fd, F⟩ := c.t.d.def_ 36 (d := d_law) rfl
  exact ⟨_, fd, He.glo_ok X G (c.t.d.fact 36 (f := .glo "law") rfl), He5.fun_of F, F.bindsN fun _ _ _ _ _ _ us hl => match us, hl with | [_], _ => rfl⟩
end
theorem facts {w : World} {h : Heap} {K : PySem.W.Frag} {mg : Str → Option Value} {fa0 : Addr} (X : K.In h) (G : h.Ns mainGlobals mg) (c : He.SaysX fa fn [] tf ex w h K) (hfa : mg ("law" : Str) = some (.ref fa0)) : LawAtG PySem.Challenge.rw_stileturns_k83_parts_of_lamp_rows w K 11 63 "script" mg fa0 h := by
  obtain ⟨fdL, FL⟩ := c.t.d.def_ 36 (d := d_law) rfl
  have eL := hfa.symm.trans (He.glo_ok X G (c.t.d.fact 36 (f := .glo "law") rfl))
  cases eL
  have exs := c.more
  unfold ex at exs
  simp only [Bool.and_eq_true] at exs
  obtain ⟨tup_LETTERS, exc_BadLetters, exc_BadNumber, exd_BadLetters, exd_BadNumber, try_BadLetters, try_BadNumber, eqo_gcd, hSys, hTabs⟩ := exs
  have try_BadLetters := tryB_ok try_BadLetters
  have try_BadNumber := tryB_ok try_BadNumber
  have g : Gb K mg := { ValueError_ := He.free_ok X G (c.t.d.fact 42 (f := .free "ValueError") rfl), abs_ := He.free_ok X G (c.t.d.fact 43 (f := .free "abs") rfl), all_ := He.free_ok X G (c.t.d.fact 44 (f := .free "all") rfl), bool_ := He.free_ok X G (c.t.d.fact 45 (f := .free "bool") rfl), dict_ := He.free_ok X G (c.t.d.fact 46 (f := .free "dict") rfl), int_ := He.free_ok X G (c.t.d.fact 47 (f := .free "int") rfl), isinstance_ := He.free_ok X G (c.t.d.fact 48 (f := .free "isinstance") rfl), len_ := He.free_ok X G (c.t.d.fact 49 (f := .free "len") rfl), list_ := He.free_ok X G (c.t.d.fact 50 (f := .free "list") rfl), max_ := He.free_ok X G (c.t.d.fact 51 (f := .free "max") rfl), min_ := He.free_ok X G (c.t.d.fact 52 (f := .free "min") rfl), range_ := He.free_ok X G (c.t.d.fact 53 (f := .free "range") rfl), repr_ := He.free_ok X G (c.t.d.fact 54 (f := .free "repr") rfl), sorted_ := He.free_ok X G (c.t.d.fact 55 (f := .free "sorted") rfl), str_ := He.free_ok X G (c.t.d.fact 56 (f := .free "str") rfl), sum_ := He.free_ok X G (c.t.d.fact 57 (f := .free "sum") rfl), tuple_ := He.free_ok X G (c.t.d.fact 58 (f := .free "tuple") rfl), most := He.int_ok X G (c.t.d.fact 59 (f := .int "MOST_STANDINGS" 1000) rfl), letters := He.glo_ok X G (c.t.d.fact 60 (f := .glo "LETTERS") rfl), let_ := fun H => He.tupB_ok tup_LETTERS H, gcd_ := PySem.W.mg_of X G (He.eqO_ok eqo_gcd), sys_ := hSys }
  have gx : Gx K mg (gA K "BadLetters") (gA K "BadNumber") (gA K "BadShow") (gA K "StileError") := ⟨⟨ exdB_ok exd_BadLetters, exdB_ok exd_BadNumber, (try_BadLetters).1, (try_BadNumber).1,
      try_BadLetters.2.1 ("BadLetters", true) (by simp), try_BadLetters.2.1 ("BadNumber", false) (by simp), try_BadLetters.2.1 ("BadShow", false) (by simp), try_BadLetters.2.1 ("StileError", true) (by simp), try_BadLetters.2.2 ("ValueError", false) (by simp),
      try_BadNumber.2.1 ("BadLetters", false) (by simp), try_BadNumber.2.1 ("BadNumber", true) (by simp), try_BadNumber.2.1 ("BadShow", false) (by simp), try_BadNumber.2.1 ("StileError", true) (by simp), try_BadNumber.2.2 ("ValueError", false) (by simp)⟩,
    He.glo_ok X G (c.t.d.fact 39 (f := .glo "BadLetters") rfl),
    He.glo_ok X G (c.t.d.fact 40 (f := .glo "BadNumber") rfl),
    He.glo_ok X G (c.t.d.fact 38 (f := .glo "BadShow") rfl),
    He.glo_ok X G (c.t.d.fact 37 (f := .glo "StileError") rfl),
    He.free_ok X G (c.t.d.fact 42 (f := .free "ValueError") rfl)⟩
  refine ⟨fdL, tf.map (He.cT K), tq K, spLaw, ?_, ?_, ?_, ?_, fun s u => FL.bindsA (ps := ["script"]) (fun _ _ _ _ _ _ us hl => match us, hl with | [_], _ => rfl) s [u] rfl, fun a ns hn => ⟨a, ns, rfl, by simp, fun _ => rfl⟩, ?_⟩
  · intro p hp
    obtain ⟨q, hq, rfl⟩ := List.mem_map.mp hp
    exact List.mem_map.mpr ⟨He.cT K q, List.mem_map.mpr ⟨q, hq, rfl⟩, rfl⟩
  · intro p hp
    obtain ⟨q, hq, rfl⟩ := List.mem_map.mp hp
    exact c.empty q hq
  · intro p hp
    obtain ⟨q, hq, rfl⟩ := List.mem_map.mp hp
    exact c.out q hq
  · intro p hp
    obtain ⟨q, hq, rfl⟩ := List.mem_map.mp hp
    exact PySem.W.codeHd_of_K X (c.hd q hq)
  intro W hW hT base KB GB hTB
  have tabm : ∀ q ∈ tf, ((He.cT K q).2, q.1 ++ ".<locals>." ++ "<lambda>") ∈ W.T := fun q hq => by rw [hT]; exact List.mem_map.mpr ⟨q, hq, rfl⟩
  have tabu : ∀ q ∈ tf, ∀ z ∈ W.T, z.1 = (He.cT K q).2 → z.2 = q.1 ++ ".<locals>." ++ "<lambda>" := fun q hq z hz e => by
    rw [hT] at hz
    obtain ⟨q2, hq2, rfl⟩ := List.mem_map.mp hz
    have := tabs_at hTabs q2 hq2 q hq e
    rw [this]
  have TB_law_is_refused : LamX.TabB base mg (He.codeOf K ("_law_is_refused", none)) (He.cT K ("_law_is_refused", none)).2 := hTB _ (List.mem_map.mpr ⟨("_law_is_refused", none), by simp [tf], rfl⟩)
  have hc_law_is_refused : ∀ (f : Addr) (fd : FuncData), mg "_law_is_refused" = some (.ref f) → L2.Fun K "_law_is_refused" "_law_is_refused" s_law_is_refused f fd → fd.code = .ref (He.codeOf K ("_law_is_refused", none)) := fun f fd hm F => by
    have e := hm.symm.trans (He.glo_ok X G (c.t.d.fact 35 (f := .glo "_law_is_refused") rfl))
    cases e
    exact code_of F
  obtain ⟨fd_BadLetters, F_BadLetters⟩ := c.t.d.def_ 38 (d := d_BadLetters_init) rfl
  have x_BadLetters : MkX PySem.Challenge.rw_stileturns_k83_parts_of_lamp_rows.prog w K mg base 1 "BadLetters" (gA K "BadLetters") "thing" := mkx_of (qual := "BadLetters.__init__") (st := s_BadLetters_init) exc_BadLetters (He.glo_ok X G (c.t.d.fact 39 (f := .glo "BadLetters") rfl)) (He5.fun_of (st := s_BadLetters_init) F_BadLetters) ⟨rfl, rfl, rfl, by decide +kernel, rfl, by decide +kernel, by decide +kernel⟩ rfl (F_BadLetters.bindsN fun _ _ _ _ _ _ us hl => match us, hl with | [_, _], _ => rfl)
  obtain ⟨fd_BadNumber, F_BadNumber⟩ := c.t.d.def_ 39 (d := d_BadNumber_init) rfl
  have x_BadNumber : MkX PySem.Challenge.rw_stileturns_k83_parts_of_lamp_rows.prog w K mg base 1 "BadNumber" (gA K "BadNumber") "thing" := mkx_of (qual := "BadNumber.__init__") (st := s_BadNumber_init) exc_BadNumber (He.glo_ok X G (c.t.d.fact 40 (f := .glo "BadNumber") rfl)) (He5.fun_of (st := s_BadNumber_init) F_BadNumber) ⟨rfl, rfl, rfl, by decide +kernel, rfl, by decide +kernel, by decide +kernel⟩ rfl (F_BadNumber.bindsN fun _ _ _ _ _ _ us hl => match us, hl with | [_, _], _ => rfl)
  have c_is_whole := ok_is_whole (P := PySem.Challenge.rw_stileturns_k83_parts_of_lamp_rows.prog) (w := w) (base := base) (W := W) (Df := D_is_whole X G c) (g := g) (hW := hW)
  have c_need_standings := ok_need_standings (P := PySem.Challenge.rw_stileturns_k83_parts_of_lamp_rows.prog) (w := w) (base := base) (W := W) (Df := D_need_standings X G c) (g := g) (hW := hW) (c_is_whole := c_is_whole) (x_BadNumber := x_BadNumber)
  have c_is_letters := ok_is_letters_ (P := PySem.Challenge.rw_stileturns_k83_parts_of_lamp_rows.prog) (w := w) (base := base) (W := W) (Df := D_is_letters X G c) (g := g) (hW := hW) (c_is_whole := c_is_whole)
  have c_need_letters := ok_need_letters (P := PySem.Challenge.rw_stileturns_k83_parts_of_lamp_rows.prog) (w := w) (base := base) (W := W) (Df := D_need_letters X G c) (g := g) (hW := hW) (c_is_letters := c_is_letters) (x_BadLetters := x_BadLetters)
  have c_walked_lamps := ok_walked_lamps (P := PySem.Challenge.rw_stileturns_k83_parts_of_lamp_rows.prog) (w := w) (base := base) (W := W) (Df := D_walked_lamps X G c) (g := g) (hW := hW)
  have c_law_draw := ok_law_draw (P := PySem.Challenge.rw_stileturns_k83_parts_of_lamp_rows.prog) (w := w) (base := base) (W := W) (Df := D_law_draw X G c) (g := g) (hW := hW)
  have c_law_pick := ok_law_pick (P := PySem.Challenge.rw_stileturns_k83_parts_of_lamp_rows.prog) (w := w) (base := base) (W := W) (Df := D_law_pick X G c) (g := g) (c_law_draw := c_law_draw)
  have c_law_modulus := ok_law_modulus (P := PySem.Challenge.rw_stileturns_k83_parts_of_lamp_rows.prog) (w := w) (base := base) (W := W) (Df := D_law_modulus X G c) (g := g) (c_law_draw := c_law_draw) (c_law_pick := c_law_pick)
  have c_law_odd_modulus := ok_law_odd_modulus (P := PySem.Challenge.rw_stileturns_k83_parts_of_lamp_rows.prog) (w := w) (base := base) (W := W) (Df := D_law_odd_modulus X G c) (g := g) (c_law_pick := c_law_pick)
  have c_law_odd := ok_law_odd (P := PySem.Challenge.rw_stileturns_k83_parts_of_lamp_rows.prog) (w := w) (base := base) (W := W) (Df := D_law_odd X G c) (g := g) (c_law_pick := c_law_pick)
  have c_law_lamp_row := ok_law_lamp_row (P := PySem.Challenge.rw_stileturns_k83_parts_of_lamp_rows.prog) (w := w) (base := base) (W := W) (Df := D_law_lamp_row X G c) (g := g) (c_law_draw := c_law_draw) (c_law_pick := c_law_pick)
  have c_law_turned := ok_law_turned (P := PySem.Challenge.rw_stileturns_k83_parts_of_lamp_rows.prog) (w := w) (base := base) (W := W) (Df := D_law_turned X G c) (g := g) (c_law_draw := c_law_draw) (c_law_pick := c_law_pick)
  have c_law_bent := ok_law_bent (P := PySem.Challenge.rw_stileturns_k83_parts_of_lamp_rows.prog) (w := w) (base := base) (W := W) (Df := D_law_bent X G c) (g := g) (c_law_draw := c_law_draw) (c_law_turned := c_law_turned) 2
  have c_law_is_integer := ok_law_is_integer (P := PySem.Challenge.rw_stileturns_k83_parts_of_lamp_rows.prog) (w := w) (base := base) (W := W) (Df := D_law_is_integer X G c) (g := g) (hW := hW)
  have c_law_is_lamp_row := ok_law_is_lamp_row (P := PySem.Challenge.rw_stileturns_k83_parts_of_lamp_rows.prog) (w := w) (base := base) (W := W) (Df := D_law_is_lamp_row X G c) (g := g) (hW := hW) (c_law_is_integer := c_law_is_integer)
  have c_law_undone := ok_law_undone (P := PySem.Challenge.rw_stileturns_k83_parts_of_lamp_rows.prog) (w := w) (base := base) (W := W) (Df := D_law_undone X G c) (g := g) (hW := hW)
  have c_law_form := ok_law_form (P := PySem.Challenge.rw_stileturns_k83_parts_of_lamp_rows.prog) (w := w) (base := base) (W := W) (Df := D_law_form X G c) (g := g) (hW := hW)
  have c_law_deck := ok_law_deck (P := PySem.Challenge.rw_stileturns_k83_parts_of_lamp_rows.prog) (w := w) (base := base) (W := W) (Df := D_law_deck X G c) (g := g) (hW := hW)
  have c_lamps_added := ok_lamps_added (P := PySem.Challenge.rw_stileturns_k83_parts_of_lamp_rows.prog) (w := w) (base := base) (W := W) (Df := D_lamps_added X G c) (g := g) (hW := hW)
  have c_lamps_moved := ok_lamps_moved (P := PySem.Challenge.rw_stileturns_k83_parts_of_lamp_rows.prog) (w := w) (base := base) (W := W) (Df := D_lamps_moved X G c) (g := g) (hW := hW)
  have c_fold_of := ok_fold_of (P := PySem.Challenge.rw_stileturns_k83_parts_of_lamp_rows.prog) (w := w) (base := base) (W := W) (Df := D_fold_of X G c) (g := g) (hW := hW)
  have c_turning_letters := ok_turning_letters (P := PySem.Challenge.rw_stileturns_k83_parts_of_lamp_rows.prog) (w := w) (base := base) (W := W) (Df := D_turning_letters X G c) (g := g) (hW := hW)
  have c_best_way := ok_best_way (P := PySem.Challenge.rw_stileturns_k83_parts_of_lamp_rows.prog) (w := w) (base := base) (W := W) (Df := D_best_way X G c) (g := g) (hW := hW)
  have c_lamps_over := ok_lamps_over (P := PySem.Challenge.rw_stileturns_k83_parts_of_lamp_rows.prog) (w := w) (base := base) (W := W) (Df := D_lamps_over X G c) (g := g) (hW := hW)
  have c_divided_lamps := ok_divided_lamps (P := PySem.Challenge.rw_stileturns_k83_parts_of_lamp_rows.prog) (w := w) (base := base) (W := W) (Df := D_divided_lamps X G c) (g := g) (hW := hW)
  have c_shortest_letters := ok_shortest_letters (P := PySem.Challenge.rw_stileturns_k83_parts_of_lamp_rows.prog) (w := w) (base := base) (W := W) (Df := D_shortest_letters X G c) (g := g) (hW := hW) (c_turning_letters := c_turning_letters) (c_best_way := c_best_way)
  have f_lamp_part := ok_lamp_part (P := PySem.Challenge.rw_stileturns_k83_parts_of_lamp_rows.prog) (w := w) (base := base) (W := W) (Df := D_lamp_part X G c) (g := g) (hW := hW) (c_need_standings := c_need_standings) (c_need_letters := c_need_letters) (c_is_whole := c_is_whole) (x_BadNumber := x_BadNumber) (c_walked_lamps := c_walked_lamps) (c_divided_lamps := c_divided_lamps) (c_shortest_letters := c_shortest_letters) (c_lamps_added := c_lamps_added) (c_lamps_moved := c_lamps_moved) (c_fold_of := c_fold_of) (c_lamps_over := c_lamps_over)
  have c_lamp_part := f_lamp_part.cal (D_lamp_part X G c)
  have k_lamp_part_nrp := f_lamp_part.kw (D_lamp_part X G c) (kw321 (fun _ _ _ _ _ _ _ _ _ => rfl))
  have k_lamp_part_npr := f_lamp_part.kw (D_lamp_part X G c) (kw231 (fun _ _ _ _ _ _ _ _ _ => rfl))
  have c_law_common := ok_law_common (P := PySem.Challenge.rw_stileturns_k83_parts_of_lamp_rows.prog) (w := w) (base := base) (W := W) (Df := D_law_common X G c) (g := g) (hW := hW)
  have c_law_fold := ok_law_fold (P := PySem.Challenge.rw_stileturns_k83_parts_of_lamp_rows.prog) (w := w) (base := base) (W := W) (Df := D_law_fold X G c) (g := g) (hW := hW)
  have c_law_has_lamp_part := ok_law_has_lamp_part (P := PySem.Challenge.rw_stileturns_k83_parts_of_lamp_rows.prog) (w := w) (base := base) (W := W) (Df := D_law_has_lamp_part X G c) (g := g) (hW := hW) (c_law_common := c_law_common) (c_law_fold := c_law_fold)
  have c_law_lamps_times := ok_law_lamps_times (P := PySem.Challenge.rw_stileturns_k83_parts_of_lamp_rows.prog) (w := w) (base := base) (W := W) (Df := D_law_lamps_times X G c) (g := g) (hW := hW)
  have c_law_is_lamp_part := ok_law_is_lamp_part (P := PySem.Challenge.rw_stileturns_k83_parts_of_lamp_rows.prog) (w := w) (base := base) (W := W) (Df := D_law_is_lamp_part X G c) (g := g) (hW := hW) (c_law_lamps_times := c_law_lamps_times)
  have c_law_whole := ok_law_whole (P := PySem.Challenge.rw_stileturns_k83_parts_of_lamp_rows.prog) (w := w) (base := base) (W := W) (Df := D_law_whole X G c) (g := g) (hW := hW) (c_law_lamp_row := c_law_lamp_row) (c_law_draw := c_law_draw) (c_law_pick := c_law_pick) (c_law_undone := c_law_undone)
  have c_law_is_part_told := ok_law_is_part_told (P := PySem.Challenge.rw_stileturns_k83_parts_of_lamp_rows.prog) (w := w) (base := base) (W := W) (Df := D_law_is_part_told X G c) (g := g) (hW := hW) (c_law_form := c_law_form) (c_law_has_lamp_part := c_law_has_lamp_part) (c_law_is_lamp_row := c_law_is_lamp_row) (c_law_is_lamp_part := c_law_is_lamp_part)
  have c_law_is_refused := ok_law_is_refused (P := PySem.Challenge.rw_stileturns_k83_parts_of_lamp_rows.prog) (w := w) (base := base) (W := W) (Df := D_law_is_refused X G c) (hc := hc_law_is_refused) (g := g) (gx := gx) (hW := hW) (DfT := D_law_lamps_tried X G c) (TB := TB_law_is_refused) (hmT := tabm ("_law_is_refused", none) (by simp [tf])) (hu := tabu ("_law_is_refused", none) (by simp [tf])) (c_law_pick := c_law_pick) (c_law_odd_modulus := c_law_odd_modulus) (c_law_odd := c_law_odd) (c_law_bent := c_law_bent) (c_law_is_integer := c_law_is_integer) (c_law_is_lamp_row := c_law_is_lamp_row) (c_lamp_part := c_lamp_part) (k_lamp_part_nrp := k_lamp_part_nrp)
  have L := ok_law (P := PySem.Challenge.rw_stileturns_k83_parts_of_lamp_rows.prog) (w := w) (base := base) (W := W) (g := g) (hW := hW) (c_law_deck := c_law_deck) (c_law_modulus := c_law_modulus) (c_law_whole := c_law_whole) (c_law_form := c_law_form) (c_law_draw := c_law_draw) (c_law_pick := c_law_pick) (c_lamp_part := c_lamp_part) (k_lamp_part_npr := k_lamp_part_npr) (c_law_is_part_told := c_law_is_part_told) (c_law_is_refused := c_law_is_refused) (c_law_is_lamp_part := c_law_is_lamp_part)
  exact L _ _ (He5.fun_of FL)
end Kx
open PySem PySem.W PySem.Calls PyProof.Rows
set_option maxRecDepth 100000 in
set_option maxHeartbeats 0 in
theorem PySem.Challenge.cw_stileturns_k83_parts_of_lamp_rows_holds : PySem.Challenge.rw_stileturns_k83_parts_of_lamp_rows.Holds := by
  w_on; o_law
  refine HandSHeadRun.head_imp (r := OpenLaw.row PySem.Challenge.rw_stileturns_k83_parts_of_lamp_rows) (q := Kx.qv) (H := Kx.hk) (ob := Kx.ob) (M := 6000) (loose := Kx.loose) (d := HandSHeadRun.topDef (OpenLaw.row PySem.Challenge.rw_stileturns_k83_parts_of_lamp_rows).prog 48) (kwd := []) Kx.ob_eq
    Kx.run (by kernel_rfl) (by kernel_rfl) (by kernel_rfl) (by rfl) (by first | assumption | decide +kernel) (by decide +kernel) ⟨rfl, rfl, rfl, rfl, rfl, by decide +kernel⟩ ?hw ?hc
  case hw => w_witness2
  case hc =>
    refine DL.walk_ofGE (l := PySem.Challenge.rw_stileturns_k83_parts_of_lamp_rows) (n := 63) (k := 11) (x := "script") rfl (by decide) (by kernel_rfl) ⟨rfl, by decide, by decide⟩ ?F
    intro w mg fa h Y G hmg0
    obtain ⟨K, KX, c⟩ := Y
    have hmg : mg ("law" : PySem.Str) = some (.ref fa) := by
      have e : (HandSHeadRun.topDef (OpenLaw.row PySem.Challenge.rw_stileturns_k83_parts_of_lamp_rows).prog 48).name = ("law" : PySem.Str) := by kernel_rfl
      rw [← e]
      exact hmg0
    exact ⟨K, KX, Kx.facts KX G c hmg⟩
