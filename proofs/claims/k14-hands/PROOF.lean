import PyProof.Rows.All
import Wide.All
import OpenK.AllK
import Wide.FinOn
import HandS.ForMost
import HandS.Evl
import HandS.IsInst
import HandS.TupAny
import HandS.Walk
import HandS.Flow
import HandS.ForExc
import HandS.Style
import HandS.TupMul
import HandS.Nested
import HandS.NestedK
import HandS.ExcInit
import HandS.ExcField
import HandS.Deep
import HandS.More
import HandS.SetFor
import HandS.SortInts
import HandS.WrittenGet
import HandS.HeadWalk
import HandS.HeadHook4
import HandS.Head2
import HandS.Strs
import HandS.Zip
import HandS.Conv
import PySem.Challenge.RW_leancells_k14_hands
set_option Elab.async false
set_option linter.all false
set_option maxRecDepth 100000
set_option maxHeartbeats 4000000
namespace Z
open PySem L2 Evl NdefX LamX
/-! ## data and stores -/
/-- what never changes -/
inductive Dat where
  | non | bl (b : Bool) | int (i : Int) | str (s : Str) | tup (l : List Dat) | lst (l : List Dat) | dct (ks : List Key) (l : List Dat) | obj (c : Str) (ns : List Str) (l : List Dat) | scr (ns : List Int)
inductive Val where
  | d (x : Dat) | ref (i : Nat) | tup (l : List Val)
inductive Cell where
  | lst (l : List Val) | dct (l : List (Key × Val)) | ins (c : Str) (l : List (Str × Val)) | clo (id : Nat) (l : List Val)
abbrev Store := List (Option Cell)
abbrev Envr := List (Option Val)
structure Exn where
  cls : Str
  fs : Option (List (Str × Dat))
inductive Res (α : Type) where
  | ok (a : α) (S : Store) | exc (x : Exn) (S : Store) | stuck
/-- a def made in a def: its words (by the cells' addresses), the names it has captured -/
structure CloSt where
  nf : List (Str × Addr) → Addr → NF
  fr : List Str
/-- the ground: the written part, the classes by name, the defs made in defs -/
structure Gm where
  K : PySem.W.Frag
  C : Str → Addr
  clo : Nat → Option CloSt
  tabs : List NTab
structure Wd where
  F : Hp
  /-- what another keeps here -/
  O : Hp
  /-- defs made by defs, and their codes -/
  X : Hp
  ρ : Nat → Addr
  S : Store
mutual
inductive DR (G : Gm) (F : Hp) : Dat → V → Prop
  | non : DR G F .non .non
  | bl (b : Bool) : DR G F (.bl b) (.bl b)
  | int (i : Int) : DR G F (.int i) (.int i)
  | str (s : Str) : DR G F (.str s) (.str s)
  | tup {a : Addr} {vs : List V} {l : List Dat} : SqT G.K F a vs → DRs G F l vs → DR G F (.tup l) (.ref a)
  | lst {a : Addr} {vs : List V} {l : List Dat} : F a = some (.lst vs) → DRs G F l vs → DR G F (.lst l) (.ref a)
  | scr {a : Addr} {ns : List Int} : SqL G.K F a (ns.map V.int) → DR G F (.scr ns) (.ref a)
  | dct {a : Addr} {kvs : List (Key × V)} {ks : List Key} {l : List Dat} : F a = some (.dK kvs) → kvs.map (·.1) = ks → DRs G F l (kvs.map (·.2)) → DR G F (.dct ks l) (.ref a)
  | obj {a dx : Addr} {c : Str} {fs : List (Str × V)} {ns : List Str} {l : List Dat} : F a = some (.ins (G.C c) dx fs) → fs.map (·.1) = ns → DRs G F l (fs.map (·.2)) → DR G F (.obj c ns l) (.ref a)
inductive DRs (G : Gm) (F : Hp) : List Dat → List V → Prop
  | nil : DRs G F [] []
  | cons {x : Dat} {v : V} {l : List Dat} {vs : List V} : DR G F x v → DRs G F l vs → DRs G F (x :: l) (v :: vs)
end
mutual
theorem DR.up {G : Gm} {F F' : Hp} (e : Ex F F') : ∀ {x : Dat} {v : V}, DR G F x v → DR G F' x v
  | _, _, .non => .non
  | _, _, .bl b => .bl b
  | _, _, .int i => .int i
  | _, _, .str s => .str s
  | _, _, .tup h r => .tup (ex_t e h) (DRs.up e r)
  | _, _, .lst h r => .lst (e _ _ h) (DRs.up e r)
  | _, _, .scr h => .scr (ex_l e h)
  | _, _, .dct h k r => .dct (e _ _ h) k (DRs.up e r)
  | _, _, .obj h k r => .obj (e _ _ h) k (DRs.up e r)
theorem DRs.up {G : Gm} {F F' : Hp} (e : Ex F F') : ∀ {l : List Dat} {vs : List V}, DRs G F l vs → DRs G F' l vs
  | _, _, .nil => .nil
  | _, _, .cons h r => .cons (DR.up e h) (DRs.up e r)
end
mutual
inductive VR (G : Gm) (w : Wd) : Val → V → Prop
  | d {x : Dat} {v : V} : DR G w.F x v → VR G w (.d x) v
  | ref {i : Nat} : i < w.S.length → VR G w (.ref i) (.ref (w.ρ i))
  | tup {a : Addr} {vs : List V} {l : List Val} : SqT G.K w.F a vs → VRs G w l vs → VR G w (.tup l) (.ref a)
inductive VRs (G : Gm) (w : Wd) : List Val → List V → Prop
  | nil : VRs G w [] []
  | cons {x : Val} {v : V} {l : List Val} {vs : List V} : VR G w x v → VRs G w l vs → VRs G w (x :: l) (v :: vs)
end
/-- later worlds -/
structure Le (w w' : Wd) : Prop where
  F : Ex w.F w'.F
  O : w'.O = w.O
  X : Ex w.X w'.X
  n : w.S.length ≤ w'.S.length
  ρ : ∀ i, i < w.S.length → w'.ρ i = w.ρ i
theorem Le.refl (w : Wd) : Le w w := ⟨Ex.refl _, rfl, Ex.refl _, Nat.le_refl _, fun _ _ => rfl⟩
theorem Le.trans {a b c : Wd} (h : Le a b) (k : Le b c) : Le a c := ⟨h.F.trans k.F, k.O.trans h.O, h.X.trans k.X, Nat.le_trans h.n k.n, fun i hi => (k.ρ i (Nat.lt_of_lt_of_le hi h.n)).trans (h.ρ i hi)⟩
mutual
theorem VR.up0 {G : Gm} {w w' : Wd} (hF : Ex w.F w'.F) (hn : w.S.length ≤ w'.S.length) (hρ : ∀ i, i < w.S.length → w'.ρ i = w.ρ i) : ∀ {x : Val} {v : V}, VR G w x v → VR G w' x v
  | _, _, .d h => .d (h.up hF)
  | _, _, .ref h => hρ _ h ▸ .ref (Nat.lt_of_lt_of_le h hn)
  | _, _, .tup h r => .tup (ex_t hF h) (VRs.up0 hF hn hρ r)
theorem VRs.up0 {G : Gm} {w w' : Wd} (hF : Ex w.F w'.F) (hn : w.S.length ≤ w'.S.length) (hρ : ∀ i, i < w.S.length → w'.ρ i = w.ρ i) : ∀ {l : List Val} {vs : List V}, VRs G w l vs → VRs G w' l vs
  | _, _, .nil => .nil
  | _, _, .cons h r => .cons (VR.up0 hF hn hρ h) (VRs.up0 hF hn hρ r)
end
theorem VR.up {G : Gm} {w w' : Wd} (e : Le w w') {x : Val} {v : V} (h : VR G w x v) : VR G w' x v := h.up0 e.F e.n e.ρ
theorem VRs.up {G : Gm} {w w' : Wd} (e : Le w w') {l : List Val} {vs : List V} (h : VRs G w l vs) : VRs G w' l vs := h.up0 e.F e.n e.ρ
section
variable {G : Gm} {F : Hp} {w : Wd} {l m : List Dat} {vs us : List V} {xs ys : List Val}
theorem DRs.len : ∀ {l : List Dat} {vs : List V}, DRs G F l vs → l.length = vs.length
  | _, _, .nil => rfl
  | _, _, .cons _ r => congrArg (· + 1) r.len
theorem VRs.len : ∀ {l : List Val} {vs : List V}, VRs G w l vs → l.length = vs.length
  | _, _, .nil => rfl
  | _, _, .cons _ r => congrArg (· + 1) r.len
theorem DRs.app : ∀ {l : List Dat} {vs : List V}, DRs G F l vs → DRs G F m us → DRs G F (l ++ m) (vs ++ us)
  | _, _, .nil, k => k
  | _, _, .cons h r, k => .cons h (r.app k)
theorem VRs.app : ∀ {l : List Val} {vs : List V}, VRs G w l vs → VRs G w ys us → VRs G w (l ++ ys) (vs ++ us)
  | _, _, .nil, k => k
  | _, _, .cons h r, k => .cons h (r.app k)
theorem DRs.at : ∀ {l : List Dat} {vs : List V} {i : Nat} {x : Dat}, DRs G F l vs → l[i]? = some x → ∃ v, vs[i]? = some v ∧ DR G F x v
  | _, _, 0, _, .cons h _, e => ⟨_, rfl, by simp at e; subst e; exact h⟩
  | _, _, i + 1, _, .cons _ r, e => by
    obtain ⟨v, h1, h2⟩ := DRs.at (i := i) r (by simpa using e)
    exact ⟨v, by simpa using h1, h2⟩
  | _, _, _, _, .nil, e => by simp at e
theorem VRs.at : ∀ {l : List Val} {vs : List V} {i : Nat} {x : Val}, VRs G w l vs → l[i]? = some x → ∃ v, vs[i]? = some v ∧ VR G w x v
  | _, _, 0, _, .cons h _, e => ⟨_, rfl, by simp at e; subst e; exact h⟩
  | _, _, i + 1, _, .cons _ r, e => by
    obtain ⟨v, h1, h2⟩ := VRs.at (i := i) r (by simpa using e)
    exact ⟨v, by simpa using h1, h2⟩
  | _, _, _, _, .nil, e => by simp at e
theorem VRs.at' : ∀ {l : List Val} {vs : List V} {i : Nat} {v : V}, VRs G w l vs → vs[i]? = some v → ∃ x, l[i]? = some x ∧ VR G w x v
  | _, _, 0, _, .cons h _, e => ⟨_, rfl, by simp at e; subst e; exact h⟩
  | _, _, i + 1, _, .cons _ r, e => by
    obtain ⟨v, h1, h2⟩ := VRs.at' (i := i) r (by simpa using e)
    exact ⟨v, by simpa using h1, h2⟩
  | _, _, _, _, .nil, e => by simp at e
theorem VRs.drop : ∀ (n : Nat) {l : List Val} {vs : List V}, VRs G w l vs → VRs G w (l.drop n) (vs.drop n)
  | 0, _, _, h => h
  | _ + 1, _, _, .nil => .nil
  | n + 1, _, _, .cons _ r => VRs.drop n r
theorem VRs.take : ∀ (n : Nat) {l : List Val} {vs : List V}, VRs G w l vs → VRs G w (l.take n) (vs.take n)
  | 0, _, _, _ => .nil
  | _ + 1, _, _, .nil => .nil
  | n + 1, _, _, .cons a r => .cons a (VRs.take n r)
theorem DRs.vrs : ∀ {l : List Dat} {vs : List V}, DRs G w.F l vs → VRs G w (l.map .d) vs
  | _, _, .nil => .nil
  | _, _, .cons h r => .cons (.d h) r.vrs
end
/-- lists of values that are data -/
def dats : List Val → Option (List Dat)
  | [] => some []
  | .d x :: r => (dats r).map (x :: ·)
  | _ :: _ => none
theorem dats_map : ∀ l : List Dat, dats (l.map .d) = some l
  | [] => rfl
  | x :: r => by show (dats (r.map .d)).map (x :: ·) = _; rw [dats_map r]; rfl
theorem dats_some : ∀ {xs : List Val} {l : List Dat}, dats xs = some l → xs = l.map .d
  | [], l, h => by cases h; rfl
  | .d x :: r, l, h => by
    cases e : dats r with
    | none => rw [dats, e] at h; cases h
    | some m => rw [dats, e] at h; cases h; rw [dats_some e]; rfl
  | .ref _ :: _, _, h => nomatch h
  | .tup _ :: _, _, h => nomatch h
theorem VRs.dat {G : Gm} {w : Wd} : ∀ {l : List Dat} {vs : List V}, VRs G w (l.map .d) vs → DRs G w.F l vs
  | [], _, .nil => .nil
  | _ :: _, _, .cons (.d h) r => .cons h r.dat
/-- a tuple: a datum if all its items are -/
def mkTup (l : List Val) : Val := match dats l with | some m => .d (.tup m) | none => .tup l
theorem VR.mkTup {G : Gm} {w : Wd} {a : Addr} {l : List Val} {vs : List V} (h : SqT G.K w.F a vs) (r : VRs G w l vs) : VR G w (mkTup l) (.ref a) := by
  unfold Z.mkTup
  cases e : dats l with
  | none => exact .tup h r
  | some m => have q := dats_some e; subst q; exact .d (.tup h r.dat)
/-- the items of a tuple -/
def tupOf : Val → Option (List Val)
  | .d (.tup l) => some (l.map .d)
  | .tup l => some l
  | _ => none
theorem VR.tupOf {G : Gm} {w : Wd} : ∀ {x : Val} {l : List Val} {v : V}, VR G w x v → tupOf x = some l → ∃ a vs, v = .ref a ∧ SqT G.K w.F a vs ∧ VRs G w l vs
  | .d (.tup m), l, _, .d (.tup h r), e => by cases e; exact ⟨_, _, rfl, h, r.vrs⟩
  | .tup m, l, _, .tup h r, e => by cases e; exact ⟨_, _, rfl, h, r⟩
  | .d .non, _, _, _, e => nomatch e
  | .d (.bl _), _, _, _, e => nomatch e
  | .d (.int _), _, _, _, e => nomatch e
  | .d (.str _), _, _, _, e => nomatch e
  | .d (.lst _), _, _, _, e => nomatch e
  | .d (.dct _ _), _, _, _, e => nomatch e
  | .d (.obj _ _ _), _, _, _, e => nomatch e
  | .d (.scr _), _, _, _, e => nomatch e
  | .ref _, _, _, _, e => nomatch e

/-! ## a heap that holds a world -/
/-- an object that the code may write -/
def plainHO : HO → Bool
  | .ext _ => false
  | .tbl _ => false
  | .frz _ _ => false
  | _ => true
/-- one that is never changed -/
def firmHO : HO → Bool
  | .ext _ => true
  | .frz _ _ => true
  | _ => false
theorem firm_np {o : HO} (h : firmHO o = true) : plainHO o = false := by cases o <;> first | rfl | cases h
/-- a code object's table, or what is known by a property -/
def isTX : HO → Bool
  | .tbl _ => true
  | .ext _ => true
  | _ => false
/-- no such thing -/
def NoT (F : Hp) : Prop := ∀ b o, F b = some o → isTX o = false
theorem NoT.upd {F : Hp} {p : Addr} {o : HO} (h : NoT F) (n : isTX o = false) : NoT (upd F p o) := fun b u e => by
  by_cases q : b = p
  · subst q; rw [upd_same] at e; cases e; exact n
  · rw [upd_ne q] at e; exact h b u e
theorem NoT.of {F F' : Hp} (h : NoT F') (e : Ex F F') : NoT F := fun b ps q => h b ps (e _ _ q)
theorem plain_nt {o : HO} (h : plainHO o = true) : isTX o = false := by cases o <;> first | rfl | cases h
def isExt : HO → Bool
  | .ext _ => true
  | _ => false
/-- what is firm is kept -/
def Kp (H H' : Hp) : Prop := ∀ b o, H b = some o → firmHO o = true → H' b = some o
theorem Kp.of {H H' : Hp} (e : Ex H H') : Kp H H' := fun b o h _ => e b o h
theorem Kp.upd {H : Hp} {a : Addr} {o o' : HO} (h : H a = some o) (p : plainHO o = true) : Kp H (upd H a o') := fun b u q n => by
  rw [upd_ne (fun z => by subst z; rw [h] at q; cases q; rw [firm_np n] at p; cases p)]; exact q
theorem tabs_ex {T : List NTab} {H H' : Hp} (k : Ex H H') (t : TabsN T H) : TabsN T H' := t.ext k
theorem tabs_upd {T : List NTab} {H : Hp} {a : Addr} {o o' : HO} (h : H a = some o) (p : plainHO o = true) (t : TabsN T H) : TabsN T (upd H a o') := fun q hq => by
  obtain ⟨ps, h1, h2, h3⟩ := t q hq
  refine ⟨ps, by rw [upd_ne (fun z => by rw [z, h] at h1; cases h1; cases p)]; exact h1, h2, fun pos cv hc => ?_⟩
  obtain ⟨c, e1, e2⟩ := h3 pos cv hc
  exact ⟨c, e1, Kp.upd h p _ _ e2 rfl⟩
/-- a cell that holds v -/
def IsCellO (v : V) (o : HO) : Prop := ∃ (ob : Obj) (u : Value), o = .frz ob (.own 0) ∧ ob.data = .cell (some u) ∧ RelV v u
theorem IsCellO.np {v : V} {o : HO} (h : IsCellO v o) : firmHO o = true := by obtain ⟨ob, u, rfl, _⟩ := h; rfl
/-- the captured names' values, at cells of a list -/
inductive Caps (G : Gm) (w : Wd) (H : Hp) (cl : List (Str × Addr)) : List Addr → List Str → List Val → Prop
  | nil : Caps G w H cl [] [] []
  | cons {x : Str} {c : Addr} {o : HO} {v : V} {y : Val} {cs : List Addr} {fr : List Str} {l : List Val} : cl.lookup x = some c → H c = some o → IsCellO v o → VR G w y v → Caps G w H cl cs fr l → Caps G w H cl (c :: cs) (x :: fr) (y :: l)
structure CloR (G : Gm) (w : Wd) (H : Hp) (κ : List Addr) (a : Addr) (st : CloSt) (cl : List (Str × Addr)) (c' : Addr) (l : List Val) : Prop where
  at_ : ∃ o, H a = some o
  fn : w.X a = some (FnO a (st.nf cl c'))
  co : w.X c' = some (CodeO c' (st.nf cl c').qual)
  mem : ∀ x c, cl.lookup x = some c → c ∈ κ
  fcl : (st.nf cl c').cl = cl
  fc : (st.nf cl c').c = c'
  inj : ∀ x y c, cl.lookup x = some c → cl.lookup y = some c → x = y
  caps : Caps G w H cl κ st.fr l
def CR (G : Gm) (w : Wd) (H : Hp) (κ : List Addr) (a : Addr) : Cell → Prop
  | .lst l => ∃ vs, H a = some (.lst vs) ∧ VRs G w l vs
  | .dct l => ∃ kvs, H a = some (.dK kvs) ∧ kvs.map (·.1) = l.map (·.1) ∧ VRs G w (l.map (·.2)) (kvs.map (·.2))
  | .ins c l => ∃ dx fs, H a = some (.ins (G.C c) dx fs) ∧ fs.map (·.1) = l.map (·.1) ∧ VRs G w (l.map (·.2)) (fs.map (·.2))
  | .clo id l => ∃ st cl c', G.clo id = some st ∧ CloR G w H κ a st cl c' l
def live (S : Store) (i : Nat) (c : Cell) : Prop := S[i]? = some (some c)
theorem live.lt {S : Store} {i : Nat} {c : Cell} (h : live S i c) : i < S.length := (List.getElem?_eq_some_iff.mp h).1
structure RepK (G : Gm) (w : Wd) (H : Hp) (κ : Nat → List Addr) : Prop where
  sub : Ex w.F H
  free : ∀ i c, live w.S i c → w.F (w.ρ i) = none
  cell : ∀ i c, live w.S i c → CR G w H (κ i) (w.ρ i) c
  inj : ∀ i j, i < w.S.length → j < w.S.length → i ≠ j → w.ρ i ≠ w.ρ j
  kf : ∀ i id l, live w.S i (.clo id l) → ∀ c ∈ κ i, w.F c = none
  os : Ex w.O H
  of : ∀ a o, w.O a = some o → w.F a = none
  ol : ∀ i, i < w.S.length → w.O (w.ρ i) = none
  ok : ∀ i id l, live w.S i (.clo id l) → ∀ c ∈ κ i, w.O c = none
  tb : TabsN G.tabs H
  xs : Ex w.X H
  xn : ∀ a o, w.X a = some o → isExt o = true
  kr : ∀ i id l, live w.S i (.clo id l) → ∀ c ∈ κ i, ∀ j, j < w.S.length → c ≠ w.ρ j
  kk : ∀ i j id l id' l', live w.S i (.clo id l) → live w.S j (.clo id' l') → i ≠ j → ∀ c ∈ κ i, c ∉ κ j
  nt : NoT w.F
  no : NoT w.O
  al : ∀ i, i < w.S.length → ∃ o, H (w.ρ i) = some o
def Rep (G : Gm) (w : Wd) (H : Hp) : Prop := ∃ κ, RepK G w H κ
section
variable {G : Gm} {w w' : Wd} {H H' : Hp} {κ : Nat → List Addr} {a p : Addr} {o : HO} {i : Nat} {c : Cell}
theorem Caps.up (e : Le w w') {cl : List (Str × Addr)} {cs : List Addr} {fr : List Str} {l : List Val} (h : Caps G w H cl cs fr l) (k : Kp H H') : Caps G w' H' cl cs fr l := by
  induction h with
  | nil => exact .nil
  | cons h1 h2 hc h3 _ ih => exact .cons h1 (k _ _ h2 hc.np) hc (h3.up e) ih
theorem CR.up (e : Le w w') {κ : List Addr} (k : Kp H H') : ∀ {c : Cell}, CR G w H κ a c → H' a = H a → CR G w' H' κ a c
  | .lst l, ⟨vs, h, r⟩, q => ⟨vs, q.trans h, r.up e⟩
  | .dct l, ⟨kvs, h, k, r⟩, q => ⟨kvs, q.trans h, k, r.up e⟩
  | .ins _ l, ⟨dx, fs, h, k, r⟩, q => ⟨dx, fs, q.trans h, k, r.up e⟩
  | .clo id l, ⟨st, cl, c', g, r⟩, q => ⟨st, cl, c', g, by rw [q]; exact r.at_, e.X _ _ r.fn, e.X _ _ r.co, r.mem, r.fcl, r.fc, r.inj, r.caps.up e k⟩
theorem Caps.has {cl : List (Str × Addr)} {cs : List Addr} {fr : List Str} {l : List Val} (h : Caps G w H cl cs fr l) : ∀ c ∈ cs, ∃ o, H c = some o ∧ firmHO o = true := by
  induction h with
  | nil => intro c hc; cases hc
  | cons h1 h2 hc h3 _ ih =>
    intro c hm
    rcases List.mem_cons.mp hm with rfl | hm
    · exact ⟨_, h2, hc.np⟩
    · exact ih c hm
theorem CR.some : ∀ {c : Cell} {κ : List Addr}, CR G w H κ a c → ∃ o, H a = Option.some o
  | .lst _, _, ⟨_, h, _⟩ => ⟨_, h⟩
  | .dct _, _, ⟨_, h, _⟩ => ⟨_, h⟩
  | .ins _ _, _, ⟨_, _, h, _⟩ => ⟨_, h⟩
  | .clo _ _, _, ⟨_, _, _, _, r⟩ => r.at_
theorem CR.plain {κ : List Addr} (n : ∀ id l, c ≠ .clo id l) (h : CR G w H κ a c) : ∃ o, H a = Option.some o ∧ plainHO o = true := by
  cases c with
  | clo id l => exact absurd rfl (n id l)
  | lst l => obtain ⟨_, h, _⟩ := h; exact ⟨_, h, rfl⟩
  | dct l => obtain ⟨_, h, _⟩ := h; exact ⟨_, h, rfl⟩
  | ins c l => obtain ⟨_, _, h, _⟩ := h; exact ⟨_, h, rfl⟩
theorem RepK.kH (R : RepK G w H κ) {id : Nat} {l : List Val} (h : live w.S i (.clo id l)) {b : Addr} (hb : b ∈ κ i) : ∃ o, H b = some o ∧ firmHO o = true := by
  obtain ⟨_, _, _, _, r⟩ := R.cell i _ h
  exact r.caps.has b hb
/-- more stands in the heap -/
theorem Rep.ex (R : Rep G w H) (e : Ex H H') : Rep G w H' := by
  obtain ⟨κ, R⟩ := R
  refine ⟨κ, R.sub.trans e, R.free, fun i c h => ?_, R.inj, R.kf, R.os.trans e, R.of, R.ol, R.ok, tabs_ex e R.tb, R.xs.trans e, R.xn, R.kr, R.kk, R.nt, R.no, fun i hi => let ⟨o, ho⟩ := R.al i hi; ⟨o, e _ _ ho⟩⟩
  have q := R.cell i c h
  obtain ⟨o, ho⟩ := q.some
  exact q.up (Le.refl w) (.of e) ((e _ _ ho).trans ho.symm)
/-- a new thing that is known for good -/
def Wd.add (w : Wd) (p : Addr) (o : HO) : Wd := { w with F := upd w.F p o }
theorem Rep.noF (R : Rep G w H) (h : H p = none) : w.F p = none := by
  obtain ⟨κ, R⟩ := R
  cases e : w.F p with
  | none => rfl
  | some o => have := R.sub _ _ e; rw [h] at this; cases this
theorem Le.add (h : w.F p = none) : Le w (w.add p o) := ⟨Ex.new h, rfl, Ex.refl _, Nat.le_refl _, fun _ _ => rfl⟩
theorem Rep.addF (R : Rep G w H) (h : H p = some o) (f : w.F p = none) (n : ∀ i c, live w.S i c → p ≠ w.ρ i) (nk : plainHO o = true) (nO : w.O p = none) : Rep G (w.add p o) H := by
  obtain ⟨κ, R⟩ := R
  have up : Le w (w.add p o) := Le.add f
  refine ⟨κ, fun a u e => ?_, fun i c hc => ?_, fun i c hc => (R.cell i c hc).up up (.of (Ex.refl _)) rfl, R.inj, fun i id l hc c hk => ?_, R.os, fun a u e => ?_, R.ol, R.ok, R.tb, R.xs, R.xn, R.kr, R.kk, R.nt.upd (plain_nt nk), R.no, R.al⟩
  · unfold Wd.add upd at e
    dsimp only at e
    split at e
    · next q => subst q; cases e; exact h
    · exact R.sub _ _ e
  · show upd w.F p o (w.ρ i) = none
    rw [upd_ne (fun q => n i c hc q.symm)]
    exact R.free i c hc
  · show upd w.F p o c = none
    have hc' : live w.S i (.clo id l) := hc
    obtain ⟨v, hv, hn⟩ := R.kH hc' hk
    rw [upd_ne (fun q => by subst q; rw [h] at hv; cases hv; rw [firm_np hn] at nk; cases nk)]
    exact R.kf i id l hc c hk
  · have e' : w.O a = some u := e
    show upd w.F p o a = none
    rw [upd_ne (fun q => by subst q; rw [nO] at e'; cases e')]
    exact R.of a u e'
theorem Rep.new (R : Rep G w H) (h : H p = none) (nt : isTX o = false := by rfl) : Rep G (w.add p o) (upd H p o) := by
  have f := R.noF h
  obtain ⟨κ, R⟩ := R
  have up : Le w (w.add p o) := Le.add f
  have ne : ∀ b u, H b = some u → b ≠ p := fun b u e => ne_of_none e h
  refine ⟨κ, fun a u e => ?_, fun i c hc => ?_, fun i c hc => ?_, R.inj, fun i id l hc c hk => ?_, fun a u e => ?_, fun a u e => ?_, R.ol, R.ok, tabs_ex (Ex.new h) R.tb, R.xs.trans (Ex.new h), R.xn, R.kr, R.kk, R.nt.upd nt, R.no, fun i hi => let ⟨o, ho⟩ := R.al i hi; ⟨o, Ex.new h _ _ ho⟩⟩
  · unfold Wd.add at e
    dsimp only at e
    by_cases q : a = p
    · subst q; rw [upd_same] at e ⊢; exact e
    · rw [upd_ne q] at e ⊢; exact R.sub _ _ e
  · show upd w.F p o (w.ρ i) = none
    obtain ⟨u, hu⟩ := (R.cell i c hc).some
    rw [upd_ne (ne _ _ hu)]
    exact R.free i c hc
  · obtain ⟨u, hu⟩ := (R.cell i c hc).some
    exact (R.cell i c hc).up up (.of (Ex.new h)) (upd_ne (ne _ _ hu))
  · show upd w.F p o c = none
    have hc' : live w.S i (.clo id l) := hc
    obtain ⟨v, hv, _⟩ := R.kH hc' hk
    rw [upd_ne (ne _ _ hv)]
    exact R.kf i id l hc c hk
  · have e' : w.O a = some u := e
    rw [upd_ne (ne _ _ (R.os _ _ e'))]; exact R.os _ _ e'
  · have e' : w.O a = some u := e
    show upd w.F p o a = none
    rw [upd_ne (ne _ _ (R.os _ _ e'))]; exact R.of a u e'
/-- a cell is no longer known -/
theorem live_set {S : Store} {i j : Nat} {o : Option Cell} {d : Cell} (h : live (S.set i o) j d) : (j = i ∧ o = some d) ∨ (j ≠ i ∧ live S j d) := by
  unfold live at h ⊢
  by_cases q : i = j
  · subst q
    have hl : i < S.length := by have := (List.getElem?_eq_some_iff.mp h).1; simpa using this
    rw [List.getElem?_set_self hl] at h
    exact .inl ⟨rfl, Option.some.inj h⟩
  · rw [List.getElem?_set_ne q] at h
    exact .inr ⟨fun z => q z.symm, h⟩
theorem Rep.sub' (R : Rep G w H) : Ex w.F H := by obtain ⟨κ, R⟩ := R; exact R.sub
theorem Le.set (o : Option Cell) : Le w { w with S := w.S.set i o } := ⟨Ex.refl _, rfl, Ex.refl _, Nat.le_of_eq (by simp), fun _ _ => rfl⟩
theorem Rep.drop (R : Rep G w H) (i : Nat) : Rep G { w with S := w.S.set i none } H := by
  obtain ⟨κ, R⟩ := R
  have lv : ∀ {j d}, live (w.S.set i none) j d → j ≠ i ∧ live w.S j d := fun h => by
    rcases live_set h with ⟨_, q⟩ | q
    · cases q
    · exact q
  have ll : ∀ {j}, j < (w.S.set i none).length → j < w.S.length := fun h => by rwa [List.length_set] at h
  exact ⟨κ, R.sub, fun j d h => R.free j d (lv h).2, fun j d h => (R.cell j d (lv h).2).up (Le.set _) (.of (Ex.refl _)) rfl, fun j k h1 h2 => R.inj j k (ll h1) (ll h2),
    fun j id l h => R.kf j id l (lv h).2, R.os, R.of, fun j h => R.ol j (ll h), fun j id l h => R.ok j id l (lv h).2, R.tb, R.xs, R.xn, fun j id l h c hc k h2 => R.kr j id l (lv h).2 c hc k (ll h2), fun j k id l id' l' h1 h2 => R.kk j k id l id' l' (lv h1).2 (lv h2).2, R.nt, R.no, fun j h => R.al j (ll h)⟩
/-- a cell that is no def's is written -/
theorem Rep.write {c' : Cell} (R : Rep G w H) (h : live w.S i c) (h1 : ∀ id l, c ≠ .clo id l) (h2 : ∀ id l, c' ≠ .clo id l) (k : CR G w (upd H (w.ρ i) o) [] (w.ρ i) c') : Rep G { w with S := w.S.set i (some c') } (upd H (w.ρ i) o) := by
  obtain ⟨κ, R⟩ := R
  have fr := R.free i c h
  have ne : ∀ {j d}, live w.S j d → j ≠ i → w.ρ j ≠ w.ρ i := fun h' n => R.inj _ _ h'.lt h.lt n
  obtain ⟨u, hu, hp⟩ := (R.cell i c h).plain h1
  have kp : Kp H (upd H (w.ρ i) o) := Kp.upd hu hp
  have ll : ∀ {j}, j < (w.S.set i (some c')).length → j < w.S.length := fun h => by rwa [List.length_set] at h
  have kx : Ex w.X (upd H (w.ρ i) o) := fun b q z => kp _ _ (R.xs _ _ z) (by have := R.xn _ _ z; cases q <;> first | rfl | cases this)
  have cr : ∀ {w : Wd} {H : Hp} {κ κ' : List Addr} {a : Addr}, CR G w H κ a c' → CR G w H κ' a c' := fun {w H κ κ' a} q => by
    cases c' with
    | clo id l => exact absurd rfl (h2 id l)
    | lst l => exact q
    | dct l => exact q
    | ins c l => exact q
  refine ⟨κ, fun a u e => ?_, fun j d hj => ?_, fun j d hj => ?_, fun j m hj hm => R.inj j m (ll hj) (ll hm), fun j id l hj => ?_, fun a u e => ?_, R.of, fun j hj => R.ol j (ll hj), fun j id l hj => ?_, tabs_upd hu hp R.tb, kx, R.xn, fun j id l hj b hb m hm => ?_, fun j m id l id' l' hj hm => ?_, R.nt, R.no, fun j hj => ?_⟩
  · have e' : w.F a = some u := e
    rw [upd_ne (fun q => by subst q; rw [fr] at e'; cases e')]; exact R.sub _ _ e'
  · rcases live_set hj with ⟨rfl, _⟩ | ⟨_, q⟩
    · exact fr
    · exact R.free j d q
  · rcases live_set hj with ⟨rfl, q⟩ | ⟨n, q⟩
    · cases q
      exact cr (k.up (H' := upd H (w.ρ j) o) (Le.set _) (.of (Ex.refl _)) rfl)
    · exact (R.cell j d q).up (Le.set _) kp (upd_ne (ne q n))
  · rcases live_set hj with ⟨rfl, q⟩ | ⟨_, q⟩
    · cases q; exact absurd rfl (h2 id l)
    · exact R.kf j id l q
  · have e' : w.O a = some u := e
    rw [upd_ne (fun q => by subst q; have := R.ol i h.lt; rw [this] at e'; cases e')]; exact R.os _ _ e'
  · rcases live_set hj with ⟨rfl, q⟩ | ⟨_, q⟩
    · cases q; exact absurd rfl (h2 id l)
    · exact R.ok j id l q
  · rcases live_set hj with ⟨rfl, q⟩ | ⟨_, q⟩
    · cases q; exact absurd rfl (h2 id l)
    · exact R.kr j id l q b hb m (ll hm)
  · rcases live_set hj with ⟨rfl, q⟩ | ⟨_, q⟩
    · cases q; exact absurd rfl (h2 id l)
    · rcases live_set hm with ⟨rfl, q'⟩ | ⟨_, q'⟩
      · cases q'; exact absurd rfl (h2 id' l')
      · exact R.kk j m id l id' l' q q'
  · obtain ⟨u', hu'⟩ := R.al j (ll hj)
    by_cases e : w.ρ j = w.ρ i
    · exact ⟨_, by show upd H _ o (w.ρ j) = _; rw [e]; exact upd_same⟩
    · exact ⟨u', by show upd H _ o (w.ρ j) = _; rw [upd_ne e]; exact hu'⟩
end
end Z
set_option Elab.async false
set_option linter.all false
set_option maxRecDepth 100000
set_option maxHeartbeats 4000000
namespace Z
open PySem L2 Evl NdefX LamX
section
variable {G : Gm} {w w' : Wd} {H H' : Hp} {κ : Nat → List Addr} {a p : Addr} {o : HO} {i : Nat} {c : Cell}
/-- a new cell -/
def Wd.push (w : Wd) (p : Addr) (c : Cell) : Wd := { w with ρ := fun j => if j = w.S.length then p else w.ρ j, S := w.S ++ [some c] }
theorem Le.push : Le w (w.push p c) := ⟨Ex.refl _, rfl, Ex.refl _, by show _ ≤ (w.S ++ [some c]).length; simp, fun i hi => if_neg (Nat.ne_of_lt hi)⟩
theorem push_ρ : (w.push p c).ρ w.S.length = p := if_pos rfl
theorem push_ρ' (h : i < w.S.length) : (w.push p c).ρ i = w.ρ i := if_neg (Nat.ne_of_lt h)
theorem live_push {S : Store} {j : Nat} {d : Cell} (h : live (S ++ [some c]) j d) : (j = S.length ∧ d = c) ∨ (j < S.length ∧ live S j d) := by
  unfold live at h ⊢
  by_cases q : j < S.length
  · rw [List.getElem?_append_left q] at h; exact .inr ⟨q, h⟩
  · have : j = S.length := by
      have := (List.getElem?_eq_some_iff.mp h).1
      simp at this; omega
    subst this
    rw [List.getElem?_append_right (Nat.le_refl _)] at h
    simp at h
    exact .inl ⟨rfl, h.symm⟩
theorem CR.nok {w : Wd} {H : Hp} {κ κ' : List Addr} {a : Addr} (n : ∀ id l, c ≠ .clo id l) (q : CR G w H κ a c) : CR G w H κ' a c := by
  cases c with
  | clo id l => exact absurd rfl (n id l)
  | lst l => exact q
  | dct l => exact q
  | ins c l => exact q
theorem Rep.alloc (R : Rep G w H) (h : H p = none) (n : ∀ id l, c ≠ .clo id l) (k : CR G w (upd H p o) [] p c) : Rep G (w.push p c) (upd H p o) := by
  have f := R.noF h
  obtain ⟨κ, R⟩ := R
  have ne : ∀ b u, H b = some u → b ≠ p := fun b u e => ne_of_none e h
  have nl : ∀ {j d}, live w.S j d → w.ρ j ≠ p := fun hj => by
    obtain ⟨u, hu⟩ := (R.cell _ _ hj).some
    exact ne _ _ hu
  have nk : ∀ {j id l}, live w.S j (.clo id l) → ∀ b ∈ κ j, b ≠ p := fun hj b hb => by
    obtain ⟨v, hv, _⟩ := R.kH hj hb
    exact ne _ _ hv
  have lp : ∀ {j d}, live (w.push p c).S j d → (j = w.S.length ∧ d = c) ∨ (j < w.S.length ∧ live w.S j d) := fun h => live_push h
  have lt : ∀ {j}, j < w.S.length → (w.push p c).ρ j = w.ρ j := fun h => push_ρ' h
  have ll : ∀ {j}, j < (w.push p c).S.length → j = w.S.length ∨ j < w.S.length := fun {j} h => by
    have h' : j < (w.S ++ [some c]).length := h
    rw [List.length_append, List.length_singleton] at h'
    omega
  have na : ∀ {j}, j < w.S.length → w.ρ j ≠ p := fun hj => by
    obtain ⟨u, hu⟩ := R.al _ hj
    exact ne _ _ hu
  have up : Le w (w.push p c) := Le.push
  have nO : ∀ {b u}, w.O b = some u → b ≠ p := fun e => ne _ _ (R.os _ _ e)
  refine ⟨κ, fun a u e => ?_, fun j d hj => ?_, fun j d hj => ?_, fun j m hj hm n' => ?_, fun j id l hj => ?_, fun a u e => ?_, R.of, fun j hj => ?_, fun j id l hj => ?_, tabs_ex (Ex.new h) R.tb, R.xs.trans (Ex.new h), R.xn, fun j id l hj b hb m hm => ?_, fun j m id l id' l' hj hm => ?_, R.nt, R.no, fun j hj => ?_⟩
  · have e' : w.F a = some u := e
    rw [upd_ne (fun q => by subst q; rw [f] at e'; cases e')]; exact R.sub _ _ e'
  · rcases lp hj with ⟨rfl, rfl⟩ | ⟨l, q⟩
    · rw [push_ρ]; exact f
    · rw [lt l]; exact R.free j d q
  · rcases lp hj with ⟨rfl, rfl⟩ | ⟨l, q⟩
    · rw [push_ρ]
      exact (k.up up (.of (Ex.refl _)) rfl).nok n
    · rw [lt l]
      exact (R.cell j d q).up up (.of (Ex.new h)) (upd_ne (nl q))
  · rcases ll hj with rfl | l <;> rcases ll hm with rfl | l'
    · exact absurd rfl n'
    · rw [push_ρ, lt l']; exact (na l').symm
    · rw [push_ρ, lt l]; exact na l
    · rw [lt l, lt l']; exact R.inj _ _ l l' n'
  · rcases lp hj with ⟨rfl, q⟩ | ⟨l', q⟩
    · exact absurd q.symm (n _ _)
    · exact R.kf j id l q
  · have e' : w.O a = some u := e
    rw [upd_ne (nO e')]; exact R.os _ _ e'
  · show w.O _ = none
    rcases ll hj with rfl | l
    · rw [push_ρ]
      cases z : w.O p with
      | none => rfl
      | some u => exact absurd rfl (nO z)
    · rw [lt l]; exact R.ol j l
  · rcases lp hj with ⟨rfl, q⟩ | ⟨l', q⟩
    · exact absurd q.symm (n _ _)
    · exact R.ok j id l q
  · rcases lp hj with ⟨rfl, q⟩ | ⟨l', q⟩
    · exact absurd q.symm (n _ _)
    · rcases ll hm with rfl | l2
      · rw [push_ρ]; exact nk q b hb
      · rw [lt l2]; exact R.kr j id l q b hb m l2
  · rcases lp hj with ⟨rfl, q⟩ | ⟨l1, q⟩
    · exact absurd q.symm (n _ _)
    · rcases lp hm with ⟨rfl, q'⟩ | ⟨l2, q'⟩
      · exact absurd q'.symm (n _ _)
      · exact R.kk j m id l id' l' q q'
  · rcases ll hj with rfl | l
    · rw [push_ρ]; exact ⟨o, upd_same⟩
    · rw [lt l]
      obtain ⟨u, hu⟩ := R.al j l
      exact ⟨u, Ex.new h _ _ hu⟩
/-! ## what becomes a datum -/
def frz : Cell → Option Dat
  | .lst l => (dats l).map .lst
  | .dct l => (dats (l.map (·.2))).map (.dct (l.map (·.1)))
  | .ins c l => (dats (l.map (·.2))).map (.obj c (l.map (·.1)))
  | .clo _ _ => none
theorem frz_clo {x : Dat} (h : frz c = some x) : ∀ id l, c ≠ .clo id l := fun id l e => by subst e; cases h
theorem VRs.dats {l : List Val} {vs : List V} {m : List Dat} (h : VRs G w l vs) (e : Z.dats l = some m) : DRs G w.F m vs := by
  have q := dats_some e; subst q; exact h.dat
theorem Rep.freeze {x : Dat} (R : Rep G w H) (h : live w.S i c) (e : frz c = some x) : ∃ o, Rep G ({ w with S := w.S.set i none }.add (w.ρ i) o) H ∧ DR G (upd w.F (w.ρ i) o) x (.ref (w.ρ i)) ∧ Le w ({ w with S := w.S.set i none }.add (w.ρ i) o) := by
  have cr : CR G w H [] (w.ρ i) c := by
    obtain ⟨κ, R⟩ := R
    exact (R.cell i c h).nok (frz_clo e)
  have fr : w.F (w.ρ i) = none := by obtain ⟨κ, R⟩ := R; exact R.free i c h
  have nO : w.O (w.ρ i) = none := by obtain ⟨κ, R⟩ := R; exact R.ol i h.lt
  have nn : ∀ j d, live (w.S.set i none) j d → w.ρ i ≠ w.ρ j := fun j d hj => by
    rcases live_set hj with ⟨_, q⟩ | ⟨n, q⟩
    · cases q
    · obtain ⟨κ, R⟩ := R
      exact R.inj _ _ h.lt q.lt (fun z => n z.symm)
  have fin : ∀ o, H (w.ρ i) = some o → plainHO o = true → DR G (upd w.F (w.ρ i) o) x (.ref (w.ρ i)) → ∃ o, Rep G ({ w with S := w.S.set i none }.add (w.ρ i) o) H ∧ DR G (upd w.F (w.ρ i) o) x (.ref (w.ρ i)) ∧ Le w ({ w with S := w.S.set i none }.add (w.ρ i) o) := fun o ho nk d =>
    ⟨o, (R.drop i).addF (w := { w with S := w.S.set i none }) ho fr nn nk nO, d, (Le.set none).trans (Le.add (w := { w with S := w.S.set i none }) fr)⟩
  have e1 : ∀ o, Ex w.F (upd w.F (w.ρ i) o) := fun o => Ex.new fr
  cases c with
  | clo id l => cases e
  | lst l =>
    obtain ⟨vs, hv, r⟩ := cr
    cases q : dats l with
    | none => simp [frz, q] at e
    | some m =>
      simp only [frz, q, Option.map_some, Option.some.injEq] at e; subst e
      exact fin _ hv rfl (.lst upd_same ((r.dats q).up (e1 _)))
  | dct l =>
    obtain ⟨kvs, hv, hk, r⟩ := cr
    cases q : dats (l.map (·.2)) with
    | none => simp [frz, q] at e
    | some m =>
      simp only [frz, q, Option.map_some, Option.some.injEq] at e; subst e
      exact fin _ hv rfl (.dct upd_same hk ((r.dats q).up (e1 _)))
  | ins C l =>
    obtain ⟨dx, fs, hv, hk, r⟩ := cr
    cases q : dats (l.map (·.2)) with
    | none => simp [frz, q] at e
    | some m =>
      simp only [frz, q, Option.map_some, Option.some.injEq] at e; subst e
      exact fin _ hv rfl (.obj upd_same hk ((r.dats q).up (e1 _)))
/-! ## forgetting what a call has made -/
mutual
def below (n : Nat) : Val → Bool
  | .d _ => true
  | .ref i => decide (i < n)
  | .tup l => belows n l
def belows (n : Nat) : List Val → Bool
  | [] => true
  | x :: r => below n x && belows n r
end
def belowC (n : Nat) : Cell → Bool
  | .lst l => belows n l
  | .dct l => belows n (l.map (·.2))
  | .ins _ l => belows n (l.map (·.2))
  | .clo _ l => belows n l
def Wd.cut (w : Wd) (n : Nat) : Wd := { w with S := w.S.take n }
mutual
theorem VR.cut {n : Nat} (hn : n ≤ w.S.length) : ∀ {x : Val} {v : V}, below n x = true → VR G w x v → VR G (w.cut n) x v
  | _, _, _, .d h => .d h
  | _, _, b, .ref h => VR.ref (w := w.cut n) (by show _ < (w.S.take n).length; rw [List.length_take, Nat.min_eq_left hn]; exact of_decide_eq_true (by simpa only [below] using b))
  | _, _, b, .tup h r => .tup h (VRs.cut hn (by simpa only [below] using b) r)
theorem VRs.cut {n : Nat} (hn : n ≤ w.S.length) : ∀ {l : List Val} {vs : List V}, belows n l = true → VRs G w l vs → VRs G (w.cut n) l vs
  | _, _, _, .nil => .nil
  | _, _, b, .cons h r => by
    rw [belows, Bool.and_eq_true] at b
    exact .cons (VR.cut hn b.1 h) (VRs.cut hn b.2 r)
end
theorem Caps.cut {n : Nat} (hn : n ≤ w.S.length) {cl : List (Str × Addr)} {cs : List Addr} {fr : List Str} {l : List Val} (h : Caps G w H cl cs fr l) (b : belows n l = true) : Caps G (w.cut n) H cl cs fr l := by
  induction h with
  | nil => exact .nil
  | cons h1 h2 hc h3 _ ih =>
    rw [belows, Bool.and_eq_true] at b
    exact .cons h1 h2 hc (h3.cut hn b.1) (ih b.2)
theorem CR.cut {n : Nat} (hn : n ≤ w.S.length) {κ : List Addr} : ∀ {c : Cell}, belowC n c = true → CR G w H κ a c → CR G (w.cut n) H κ a c
  | .lst l, b, ⟨vs, h, r⟩ => ⟨vs, h, r.cut hn b⟩
  | .dct l, b, ⟨kvs, h, k, r⟩ => ⟨kvs, h, k, r.cut hn b⟩
  | .ins _ l, b, ⟨dx, fs, h, k, r⟩ => ⟨dx, fs, h, k, r.cut hn b⟩
  | .clo id l, b, ⟨st, cl, c', g, r⟩ => ⟨st, cl, c', g, r.at_, r.fn, r.co, r.mem, r.fcl, r.fc, r.inj, r.caps.cut hn b⟩
theorem live_take {S : Store} {n j : Nat} {d : Cell} (h : live (S.take n) j d) : j < n ∧ live S j d := by
  unfold live at h ⊢
  have hl := (List.getElem?_eq_some_iff.mp h).1
  rw [List.length_take] at hl
  have hj : j < n := Nat.lt_of_lt_of_le hl (Nat.min_le_left _ _)
  rw [List.getElem?_take_of_lt hj] at h
  exact ⟨hj, h⟩
theorem Rep.cut {n : Nat} (R : Rep G w H) (hn : n ≤ w.S.length) (b : ∀ i c, i < n → live w.S i c → belowC n c = true) : Rep G (w.cut n) H := by
  obtain ⟨κ, R⟩ := R
  have lt : ∀ {j d}, live (w.cut n).S j d → j < n ∧ live w.S j d := fun h => live_take h
  have ll : ∀ {j}, j < (w.cut n).S.length → j < w.S.length := fun {j} h => by
    have h' : j < (w.S.take n).length := h
    rw [List.length_take] at h'
    omega
  exact ⟨κ, R.sub, fun j d h => R.free j d (lt h).2, fun j d h => (R.cell j d (lt h).2).cut hn (b j d (lt h).1 (lt h).2), fun j k h1 h2 => R.inj j k (ll h1) (ll h2),
    fun j id l h => R.kf j id l (lt h).2, R.os, R.of, fun j h => R.ol j (ll h), fun j id l h => R.ok j id l (lt h).2, R.tb, R.xs, R.xn, fun j id l h c hc k h2 => R.kr j id l (lt h).2 c hc k (ll h2), fun j k id l id' l' h1 h2 => R.kk j k id l id' l' (lt h1).2 (lt h2).2, R.nt, R.no, fun j h => R.al j (ll h)⟩
mutual
theorem VR.blw : ∀ {x : Val} {v : V}, VR G w x v → Z.below w.S.length x = true
  | _, _, .d h => rfl
  | _, _, .ref h => by simpa only [Z.below] using decide_eq_true h
  | _, _, .tup h r => by simpa only [Z.below] using VRs.blws r
theorem VRs.blws : ∀ {l : List Val} {vs : List V}, VRs G w l vs → Z.belows w.S.length l = true
  | _, _, .nil => rfl
  | _, _, .cons h r => by rw [Z.belows, VR.blw h, VRs.blws r]; rfl
end
theorem Caps.blws {cl : List (Str × Addr)} {cs : List Addr} {fr : List Str} {l : List Val} (h : Caps G w H cl cs fr l) : Z.belows w.S.length l = true := by
  induction h with
  | nil => rfl
  | cons h1 h2 hc h3 _ ih => rw [Z.belows, h3.blw, ih]; rfl
theorem CR.blw {κ : List Addr} : ∀ {c : Cell}, CR G w H κ a c → belowC w.S.length c = true
  | .lst l, ⟨vs, h, r⟩ => r.blws
  | .dct l, ⟨kvs, h, k, r⟩ => r.blws
  | .ins _ l, ⟨dx, fs, h, k, r⟩ => r.blws
  | .clo id l, ⟨st, cl, c', g, r⟩ => r.caps.blws
/-- what another keeps changes -/
theorem Rep.otherW (R : Rep G w H) (h : w.O p = some o) (n : plainHO o = true) (o' : HO) (nt : isTX o' = false := by rfl) : Rep G { w with O := upd w.O p o' } (upd H p o') := by
  obtain ⟨κ, R⟩ := R
  have fp : w.F p = none := R.of p o h
  have kp : Kp H (upd H p o') := Kp.upd (R.os _ _ h) n
  have kx : Ex w.X (upd H p o') := fun b q z => kp _ _ (R.xs _ _ z) (by have := R.xn _ _ z; cases q <;> first | rfl | cases this)
  have ne : ∀ {i c}, live w.S i c → w.ρ i ≠ p := fun hc e => by have := R.ol _ hc.lt; rw [e, h] at this; cases this
  have nea : ∀ {i}, i < w.S.length → w.ρ i ≠ p := fun hi e => by have := R.ol _ hi; rw [e, h] at this; cases this
  have nk : ∀ {i id l}, live w.S i (.clo id l) → ∀ c ∈ κ i, c ≠ p := fun hc c hk e => by have := R.ok _ _ _ hc c hk; rw [e, h] at this; cases this
  have up : Le w w := Le.refl w
  have cr : ∀ {κ : List Addr} {a : Addr} {H : Hp} {c : Cell}, CR G w H κ a c → CR G { w with O := upd w.O p o' } H κ a c := by
    have vr : ∀ {l : List Val} {vs : List V}, VRs G w l vs → VRs G { w with O := upd w.O p o' } l vs := fun r => r.up0 (w := w) (w' := { w with O := upd w.O p o' }) (Ex.refl _) (Nat.le_refl _) fun _ _ => rfl
    have cp : ∀ {H : Hp} {cl : List (Str × Addr)} {cs : List Addr} {fr : List Str} {l : List Val}, Caps G w H cl cs fr l → Caps G { w with O := upd w.O p o' } H cl cs fr l := fun r => by
      induction r with
      | nil => exact .nil
      | cons h1 h2 hc h3 _ ih => exact .cons h1 h2 hc (h3.up0 (w := w) (w' := { w with O := upd w.O p o' }) (Ex.refl _) (Nat.le_refl _) fun _ _ => rfl) ih
    intro κ a H c q
    cases c with
    | lst l => obtain ⟨vs, h, r⟩ := q; exact ⟨vs, h, vr r⟩
    | dct l => obtain ⟨vs, h, k, r⟩ := q; exact ⟨vs, h, k, vr r⟩
    | ins C l => obtain ⟨d, vs, h, k, r⟩ := q; exact ⟨d, vs, h, k, vr r⟩
    | clo id l => obtain ⟨st, cl, c', g, r⟩ := q; exact ⟨st, cl, c', g, r.at_, r.fn, r.co, r.mem, r.fcl, r.fc, r.inj, cp r.caps⟩
  refine ⟨κ, fun a u e => ?_, R.free, fun i c hc => cr ((R.cell i c hc).up up kp (upd_ne (ne hc))), R.inj, R.kf, fun a u e => ?_, fun a u e => ?_, fun i hi => ?_, fun i id l hc c hk => ?_, tabs_upd (R.os _ _ h) n R.tb, kx, R.xn, R.kr, R.kk, R.nt, R.no.upd nt, fun i hi => ?_⟩
  · have e' : w.F a = some u := e
    rw [upd_ne (fun q => by subst q; rw [fp] at e'; cases e')]; exact R.sub _ _ e'
  · have e' : upd w.O p o' a = some u := e
    by_cases q : a = p
    · subst q; rw [upd_same] at e' ⊢; exact e'
    · rw [upd_ne q] at e' ⊢; exact R.os _ _ e'
  · have e' : upd w.O p o' a = some u := e
    by_cases q : a = p
    · subst q; exact fp
    · rw [upd_ne q] at e'; exact R.of _ _ e'
  · show upd w.O p o' _ = none
    rw [upd_ne (nea hi)]; exact R.ol i hi
  · show upd w.O p o' _ = none
    rw [upd_ne (nk hc c hk)]; exact R.ok i id l hc c hk
  · obtain ⟨u, hu⟩ := R.al i hi
    exact ⟨u, by show upd H p o' _ = _; rw [upd_ne (nea hi)]; exact hu⟩
theorem Rep.blw (R : Rep G w H) (h : live w.S i c) : belowC w.S.length c = true := by
  obtain ⟨κ, R⟩ := R
  exact (R.cell i c h).blw
end
/-- the first n places of S', if nothing there looks behind them; S: as it was -/
noncomputable def trim (S S' : Store) : Option Store := by
  classical
  exact if S.length ≤ S'.length ∧ ∀ i, i < S.length → S'[i]? = S[i]? ∨ ∀ c, live S' i c → belowC S.length c = true then some (S'.take S.length) else none
theorem trim_some {S S' T : Store} (h : trim S S' = some T) : S.length ≤ S'.length ∧ T = S'.take S.length ∧ ∀ i, i < S.length → S'[i]? = S[i]? ∨ ∀ c, live S' i c → belowC S.length c = true := by
  unfold trim at h
  split at h
  · next q => cases h; exact ⟨q.1, rfl, q.2⟩
  · cases h
theorem trim_eq {S S' : Store} (h : S.length ≤ S'.length) (k : ∀ i, i < S.length → S'[i]? = S[i]? ∨ ∀ c, live S' i c → belowC S.length c = true) : trim S S' = some (S'.take S.length) := by
  unfold trim
  exact if_pos ⟨h, k⟩
theorem trim_app (S T : Store) : trim S (S ++ T) = some S := by
  rw [trim_eq (by simp) fun i hi => .inl (List.getElem?_append_left hi)]
  rw [List.take_left]
theorem trim_same (S : Store) : trim S S = some S := by have := trim_app S []; simpa using this
end Z
set_option Elab.async false
set_option linter.all false
set_option maxRecDepth 100000
set_option maxHeartbeats 4000000
namespace Z
open PySem L2 Evl NdefX LamX
/-! ## what a piece of code comes to -/
inductive ER (G : Gm) (w : Wd) : Envr → L2.St → Prop
  | nil : ER G w [] []
  | non {o : Option V} {e : Envr} {σ : L2.St} : ER G w e σ → ER G w (none :: e) (o :: σ)
  | som {x : Val} {v : V} {e : Envr} {σ : L2.St} : VR G w x v → ER G w e σ → ER G w (some x :: e) (some v :: σ)
section
variable {G : Gm} {w w' : Wd}
theorem ER.up (le : Le w w') : ∀ {e : Envr} {σ : L2.St}, ER G w e σ → ER G w' e σ
  | _, _, .nil => .nil
  | _, _, .non r => .non (r.up le)
  | _, _, .som h r => .som (h.up le) (r.up le)
theorem ER.get : ∀ {e : Envr} {σ : L2.St} {i : Nat} {x : Val}, ER G w e σ → e[i]? = some (some x) → ∃ v, σ[i]? = some (some v) ∧ VR G w x v
  | _, _, 0, _, .som h _, q => ⟨_, rfl, by simp at q; subst q; exact h⟩
  | _, _, 0, _, .non _, q => by simp at q
  | _, _, i + 1, _, .som _ r, q => by
    obtain ⟨v, h1, h2⟩ := ER.get (i := i) r (by simpa using q)
    exact ⟨v, by simpa using h1, h2⟩
  | _, _, i + 1, _, .non r, q => by
    obtain ⟨v, h1, h2⟩ := ER.get (i := i) r (by simpa using q)
    exact ⟨v, by simpa using h1, h2⟩
  | _, _, _, _, .nil, q => by simp at q
theorem ER.set {x : Val} {v : V} (h : VR G w x v) : ∀ {e : Envr} {σ : L2.St} (i : Nat), ER G w e σ → ER G w (e.set i (some x)) (σ.set i (some v))
  | _, _, _, .nil => .nil
  | _, _, 0, .non r => .som h r
  | _, _, 0, .som _ r => .som h r
  | _, _, i + 1, .non r => .non (ER.set h i r)
  | _, _, i + 1, .som k r => .som k (ER.set h i r)
theorem ER.unset : ∀ {e : Envr} {σ : L2.St} (i : Nat) (o : Option V), ER G w e σ → ER G w (e.set i none) (σ.set i o)
  | _, _, _, _, .nil => .nil
  | _, _, 0, _, .non r => .non r
  | _, _, 0, _, .som _ r => .non r
  | _, _, i + 1, o, .non r => .non (ER.unset i o r)
  | _, _, i + 1, o, .som k r => .som k (ER.unset i o r)
theorem ER.app {e e' : Envr} {σ σ' : L2.St} (h : ER G w e σ) (h' : ER G w e' σ') : ER G w (e ++ e') (σ ++ σ') := by
  induction h with
  | nil => exact h'
  | non _ ih => exact .non ih
  | som k _ ih => exact .som k ih
theorem ER.vals : ∀ {l : List Val} {vs : List V}, VRs G w l vs → ER G w (l.map some) (vs.map some)
  | _, _, .nil => .nil
  | _, _, .cons h r => .som h (ER.vals r)
theorem ER.nones : ∀ n : Nat, ER G w (List.replicate n none) (List.replicate n none)
  | 0 => .nil
  | n + 1 => .non (ER.nones n)
end
def wipeE (e : Envr) : List Nat → Envr
  | [] => e
  | v :: vs => (wipeE e vs).set v none
theorem ER.wipe {G : Gm} {w : Wd} {e : Envr} {σ : L2.St} (h : ER G w e σ) : ∀ vs : List Nat, ER G w (wipeE e vs) (wipe σ vs)
  | [] => h
  | v :: vs => (ER.wipe h vs).unset v none
def XR (G : Gm) (w : Wd) (x : Exn) (cls : Value) (d : Option Addr) : Prop :=
  cls = .ref (G.C x.cls) ∧ ((x.fs = none ∧ d = none) ∨ ∃ l a fs, x.fs = some l ∧ d = some a ∧ w.F a = some (.xd fs) ∧ fs.map (·.1) = l.map (·.1) ∧ DRs G w.F (l.map (·.2)) (fs.map (·.2)))
theorem XR.up {G : Gm} {w w' : Wd} (e : Le w w') {x : Exn} {cls : Value} {d : Option Addr} (h : XR G w x cls d) : XR G w' x cls d := by
  obtain ⟨h1, h2⟩ := h
  refine ⟨h1, h2.imp id ?_⟩
  rintro ⟨l, a, fs, k1, k2, k3, k4, k5⟩
  exact ⟨l, a, fs, k1, k2, e.F _ _ k3, k4, k5.up e.F⟩
/-- an expression's end -/
def Pst {α β : Type} (G : Gm) (R : Wd → α → β → Prop) (E : XK) (w : Wd) (r : Res α) (Q : β → Hp → Prop) : Prop := match r with
  | .ok x S' => ∀ w' H' v, w'.S = S' → Le w w' → Rep G w' H' → R w' x v → Q v H'
  | .exc x S' => ∀ w' H' cls d, w'.S = S' → Le w w' → Rep G w' H' → XR G w' x cls d → E cls d H'
  | .stuck => False
def rbind {α β : Type} (r : Res α) (k : α → Store → Res β) : Res β := match r with
  | .ok x S => k x S
  | .exc x S => .exc x S
  | .stuck => .stuck
section
variable {α β γ δ : Type} {G : Gm} {R1 : Wd → α → β → Prop} {R2 : Wd → γ → δ → Prop} {E : XK} {w w' : Wd} {r : Res α} {k : α → Store → Res γ} {Q Q' : β → Hp → Prop} {Q2 : δ → Hp → Prop}
theorem Pst.later (le : Le w w') (h : Pst G R1 E w r Q) : Pst G R1 E w' r Q := by
  cases r with
  | ok x S => exact fun u H v e l => h u H v e (le.trans l)
  | exc x S => exact fun u H c d e l => h u H c d e (le.trans l)
  | stuck => exact h
theorem Pst.imp (h : Pst G R1 E w r Q) (i : ∀ v H, Q v H → Q' v H) : Pst G R1 E w r Q' := by
  cases r with
  | ok x S => exact fun u H v e l R k => i _ _ (h u H v e l R k)
  | exc x S => exact h
  | stuck => exact h
theorem Pst.bind (h : Pst G R2 E w (rbind r k) Q2) (q : ∀ x u H v, Le w u → Rep G u H → R1 u x v → Pst G R2 E u (k x u.S) Q2 → Q v H) : Pst G R1 E w r Q := by
  cases r with
  | ok x S =>
    intro u H v e l R p
    subst e
    exact q x u H v l R p (Pst.later l h)
  | exc x S => exact h
  | stuck => exact h
/-- it comes to this at once -/
theorem Pst.here {x : α} {v : β} {H : Hp} (R : Rep G w H) (h : R1 w x v) (p : Pst G R1 E w (.ok x w.S) Q) : Q v H := p w H v rfl (Le.refl w) R h
end
abbrev EF := Envr → Store → Res Val
abbrev AF := Envr → Store → Res (List Val)
abbrev BF := Envr → Store → Res Bool
def BR (_ : Wd) (x b : Bool) : Prop := x = b
/-- a piece of code, told by what it comes to -/
def tM {α β : Type} (G : Gm) (R : Wd → α → β → Prop) (W : WX) (f : Envr → Store → Res α) : L2.St → Hp → (β → Hp → Prop) → Prop := fun σ H Q =>
  ∃ env w, ER G w env σ ∧ Rep G w H ∧ Pst G R (fun c d H => W c d σ H) w (f env w.S) Q
structure Gr where
  C : Str → Addr
  clo : Nat → Option CloSt
  tabs : List NTab
abbrev gx (X : Cx) (Γ : Gr) : Gm := ⟨X.K, Γ.C, Γ.clo, Γ.tabs⟩
def PM (X : Cx) (Γ : Gr) (W : WX) (e : Expr) (f : EF) : Prop := PE X e (tM (gx X Γ) (VR (gx X Γ)) W f)
def TM (X : Cx) (Γ : Gr) (W : WX) (e : Expr) (f : BF) : Prop := PT X e (tM (gx X Γ) BR W f)
def TWM (X : Cx) (Γ : Gr) (W : WX) (e : Expr) (f : BF) : Prop := PW X e (tM (gx X Γ) BR W f)
def AM (X : Cx) (Γ : Gr) (W : WX) (es : List Expr) (f : AF) : Prop := PA X es (tM (gx X Γ) (VRs (gx X Γ)) W f)
inductive SRes where
  | nx (e : Envr) (S : Store) | rt (x : Val) (S : Store) | bk (e : Envr) (S : Store) | ct (e : Envr) (S : Store) | exc (x : Exn) (e : Envr) (S : Store) | stuck
abbrev SF := Envr → Store → SRes
def Sst (G : Gm) (W : WX) (D : Ends) (w : Wd) (r : SRes) : Prop := match r with
  | .nx e S' => ∀ w' H' σ', w'.S = S' → Le w w' → Rep G w' H' → ER G w' e σ' → D.nx σ' H'
  | .rt x S' => ∀ w' H' v, w'.S = S' → Le w w' → Rep G w' H' → VR G w' x v → D.rt v H'
  | .bk e S' => ∀ w' H' σ', w'.S = S' → Le w w' → Rep G w' H' → ER G w' e σ' → D.bk σ' H'
  | .ct e S' => ∀ w' H' σ', w'.S = S' → Le w w' → Rep G w' H' → ER G w' e σ' → D.ct σ' H'
  | .exc x e S' => ∀ w' H' σ' cls d, w'.S = S' → Le w w' → Rep G w' H' → ER G w' e σ' → XR G w' x cls d → W cls d σ' H'
  | .stuck => False
theorem Sst.later {G : Gm} {W : WX} {D : Ends} {w w' : Wd} {r : SRes} (le : Le w w') (h : Sst G W D w r) : Sst G W D w' r := by
  cases r with
  | nx e S => exact fun u H v e l => h u H v e (le.trans l)
  | rt x S => exact fun u H v e l => h u H v e (le.trans l)
  | bk x S => exact fun u H v e l => h u H v e (le.trans l)
  | ct x S => exact fun u H v e l => h u H v e (le.trans l)
  | exc x e S => exact fun u H v c d e l => h u H v c d e (le.trans l)
  | stuck => exact h
def tSM (G : Gm) (W : WX) (f : SF) : TS := fun D σ H => ∃ env w, ER G w env σ ∧ Rep G w H ∧ Sst G W D w (f env w.S)
def SM (X : Cx) (Γ : Gr) (W : WX) (st : Stmt) (f : SF) : Prop := PS X st (tSM (gx X Γ) W f)
def SMs (X : Cx) (Γ : Gr) (W : WX) (st : List Stmt) (f : SF) : Prop := PSs X st (tSM (gx X Γ) W f)
/-- behind an expression: a statement goes on -/
def sbind {α : Type} (env : Envr) (r : Res α) (k : α → Store → SRes) : SRes := match r with
  | .ok x S => k x S
  | .exc x S => .exc x env S
  | .stuck => .stuck
theorem Sst.bind {α β : Type} {G : Gm} {R1 : Wd → α → β → Prop} {W : WX} {D : Ends} {w : Wd} {env : Envr} {σ : L2.St} {r : Res α} {k : α → Store → SRes} {Q : β → Hp → Prop} (er : ER G w env σ) (h : Sst G W D w (sbind env r k))
    (q : ∀ x u H v, Le w u → Rep G u H → ER G u env σ → R1 u x v → Sst G W D u (k x u.S) → Q v H) : Pst G R1 (fun c d H => W c d σ H) w r Q := by
  cases r with
  | ok x S =>
    intro u H v e l R p
    subst e
    exact q x u H v l R (er.up l) p (Sst.later l h)
  | exc x S => exact fun u H c d e l R x => h u H σ c d e l R (er.up l) x
  | stuck => exact h
def sSeq (f g : SF) : SF := fun e S => match f e S with
  | .nx e' S' => g e' S'
  | r => r
section
variable {X : Cx} {Γ : Gr} {W : WX}
theorem pe_wk {e : Expr} {t t' : TE} (h : PE X e t) (k : ∀ σ H Q, t' σ H Q → t σ H Q) : PE X e t' := ⟨fun pins s σ H Q I q => h.run pins s σ H Q I (k _ _ _ q)⟩
theorem pt_wk {e : Expr} {t t' : TT} (h : PT X e t) (k : ∀ σ H Q, t' σ H Q → t σ H Q) : PT X e t' := ⟨fun pins s σ H Q I q => h.run pins s σ H Q I (k _ _ _ q)⟩
theorem pw_wk {e : Expr} {t t' : TT} (h : PW X e t) (k : ∀ σ H Q, t' σ H Q → t σ H Q) : PW X e t' := ⟨fun wh pins s σ H Q I q => h.run wh pins s σ H Q I (k _ _ _ q)⟩
theorem pa_wk {e : List Expr} {t t' : TA} (h : PA X e t) (k : ∀ σ H Q, t' σ H Q → t σ H Q) : PA X e t' := ⟨fun pos pins s σ H Q I q => h.run pos pins s σ H Q I (k _ _ _ q)⟩
theorem ps_wk {e : Stmt} {t t' : TS} (h : PS X e t) (k : ∀ D σ H, t' D σ H → t D σ H) : PS X e t' := ⟨fun pins s σ H Q I q => h.run pins s σ H Q I (k _ _ _ q)⟩
theorem pss_wk {e : List Stmt} {t t' : TS} (h : PSs X e t) (k : ∀ D σ H, t' D σ H → t D σ H) : PSs X e t' := ⟨fun pins s σ H Q I q => h.run pins s σ H Q I (k _ _ _ q)⟩
/-! ### blocks -/
theorem mss_nil : SMs X Γ W [] (fun e S => .nx e S) := pss_wk pss_nil fun D σ H ⟨env, w, er, R, p⟩ => p w H σ rfl (Le.refl _) R er
theorem mss_one {st : Stmt} {f : SF} (h : SM X Γ W st f) : SMs X Γ W [st] f := pss_one h
theorem mss_cons {st : Stmt} {r : List Stmt} {f g : SF} (h : SM X Γ W st f) (k : SMs X Γ W r g) : SMs X Γ W (st :: r) (sSeq f g) := by
  refine pss_wk (pss_cons h k) fun D σ H ⟨env, w, er, R, p⟩ => ?_
  refine ⟨env, w, er, R, ?_⟩
  unfold sSeq at p
  cases q : f env w.S with
  | nx e S =>
    rw [q] at p
    intro u H v es l R er
    subst es
    exact ⟨e, u, er, R, Sst.later l p⟩
  | rt x S => rw [q] at p; exact p
  | bk x S => rw [q] at p; exact p
  | ct x S => rw [q] at p; exact p
  | exc x e S => rw [q] at p; exact p
  | stuck => rw [q] at p; exact p
/-! ### constants, names -/
def eVar (i : Nat) : EF := fun e S => match e[i]? with
  | some (some x) => .ok x S
  | _ => .stuck
def eDat (x : Dat) : EF := fun _ S => .ok (.d x) S
theorem m_var {i : Nat} {x : Str} {pos : Pos} (h : PE X (.Name x pos) (tVar i)) : PM X Γ W (.Name x pos) (eVar i) := by
  refine pe_wk h fun σ H Q ⟨env, w, er, R, p⟩ => ?_
  unfold eVar at p
  cases q : env[i]? with
  | none => rw [q] at p; exact p.elim
  | some o =>
    rw [q] at p
    cases o with
    | none => exact p.elim
    | some x =>
      obtain ⟨v, hv, r⟩ := er.get q
      exact ⟨v, hv, p.here R r⟩
theorem m_c {e : Expr} {v : V} {x : Dat} (h : PE X e (tC v)) (r : ∀ F, DR (gx X Γ) F x v) : PM X Γ W e (eDat x) :=
  pe_wk h fun σ H Q ⟨env, w, er, R, p⟩ => p.here R (.d (r _))
theorem m_int {i j pos} : PM X Γ W (.Constant (.int i) j pos) (eDat (.int i)) := m_c pe_int fun _ => .int _
theorem m_bl {i j pos} : PM X Γ W (.Constant (.bool i) j pos) (eDat (.bl i)) := m_c pe_bl fun _ => .bl _
theorem m_str {i j pos} : PM X Γ W (.Constant (.str i) j pos) (eDat (.str i)) := m_c pe_str fun _ => .str _
theorem m_non {j pos} : PM X Γ W (.Constant .none j pos) (eDat .non) := m_c pe_non fun _ => .non
/-! ### arguments, displays -/
def aNil : AF := fun _ S => .ok [] S
def aCons (f : EF) (g : AF) : AF := fun e S => rbind (f e S) fun x S => rbind (g e S) fun l S => .ok (x :: l) S
theorem ma_nil : AM X Γ W [] aNil := pa_wk pa_nil fun σ H Q ⟨env, w, er, R, p⟩ => p.here R .nil
theorem ma_cons {e : Expr} {es : List Expr} {f : EF} {g : AF} (h : PM X Γ W e f) (k : AM X Γ W es g) (hs : starEach (e :: es) X.env = (false, eval e X.env) :: starEach es X.env := by rfl) : AM X Γ W (e :: es) (aCons f g) := by
  refine pa_wk (pa_cons h k hs) fun σ H Q ⟨env, w, er, R, p⟩ => ?_
  refine ⟨env, w, er, R, p.bind fun x u H v l R r p => ?_⟩
  refine ⟨env, u, er.up l, R, p.bind fun xs u2 H vs l2 R rs p => ?_⟩
  exact p.here R (.cons (r.up l2) rs)
def rtup (l : List Val) (S : Store) : Res Val := if l.length ≤ 100000 then .ok (mkTup l) S else .stuck
theorem rtup_ok {G : Gm} {E : XK} {w : Wd} {H : Hp} {l : List Val} {vs : List V} {Q : VK} (R : Rep G w H) (r : VRs G w l vs) (p : Pst G (VR G) E w (rtup l w.S) Q) : vs.length ≤ sizeLine ∧ ∀ a, H a = none → Q (.ref a) (upd H a (.tup vs)) := by
  unfold rtup at p
  split at p
  · next h =>
    refine ⟨sz_of (by rw [← r.len]; exact h), fun a ha => ?_⟩
    refine p (w.add a (.tup vs)) _ _ rfl (Le.add (R.noF ha)) (R.new ha) ?_
    exact VR.mkTup (st_of upd_same) (r.up (Le.add (R.noF ha)))
  · exact p.elim
def eTup (f : AF) : EF := fun e S => rbind (f e S) rtup
theorem m_tup {es : List Expr} {k} {pos : Pos} {f : AF} (h : AM X Γ W es f) : PM X Γ W (.Tuple es k pos) (eTup f) := by
  refine pe_wk (pe_tup h) fun σ H Q ⟨env, w, er, R, p⟩ => ?_
  exact ⟨env, w, er, R, p.bind fun l u H vs le R r p => rtup_ok R r p⟩
/-- a new list that is written later on -/
def rlst (l : List Val) (S : Store) : Res Val := if l.length ≤ 100000 then .ok (.ref S.length) (S ++ [some (.lst l)]) else .stuck
theorem Rep.newL {G : Gm} {w : Wd} {H : Hp} {l : List Val} {vs : List V} {a : Addr} (R : Rep G w H) (ha : H a = none) (r : VRs G w l vs) : Rep G (w.push a (.lst l)) (upd H a (.lst vs)) :=
  R.alloc ha (fun _ _ z => by cases z) ⟨vs, upd_same, r⟩
theorem VR.new {G : Gm} {w : Wd} {a : Addr} {c : Cell} : VR G (w.push a c) (.ref w.S.length) (.ref a) := by
  have := VR.ref (G := G) (w := w.push a c) (i := w.S.length) (by show _ < (w.S ++ [some c]).length; simp)
  rw [push_ρ] at this
  exact this
def eLst (f : AF) : EF := fun e S => rbind (f e S) rlst
theorem m_lst {es : List Expr} {pos : Pos} {f : AF} (h : AM X Γ W es f) : PM X Γ W (.List es pos) (eLst f) := by
  refine pe_wk (pe_lst h) fun σ H Q ⟨env, w, er, R, p⟩ => ?_
  refine ⟨env, w, er, R, p.bind fun l u H vs le R r p => ?_⟩
  unfold rlst at p
  split at p
  · next h =>
    refine ⟨sz_of (by rw [← r.len]; exact h), fun a ha => ?_⟩
    exact p (u.push a (.lst l)) _ _ rfl Le.push (R.newL ha r) VR.new
  · exact p.elim
/-- a new thing that is not written any more -/
def rfrz (x : Val) (S : Store) : Res Val := match x with
  | .ref i => match S[i]? with
    | some (some c) => match frz c with
      | some y => .ok (.d y) (S.set i none)
      | none => .stuck
    | _ => .stuck
  | x => .ok x S
theorem rfrz_ok {G : Gm} {E : XK} {w : Wd} {H : Hp} {x : Val} {v : V} {Q : VK} (R : Rep G w H) (r : VR G w x v) (p : Pst G (VR G) E w (rfrz x w.S) Q) : Q v H := by
  unfold rfrz at p
  cases r with
  | d h => exact p.here R (.d h)
  | tup h r => exact p.here R (.tup h r)
  | @ref i hi =>
    dsimp only at p
    cases q : w.S[i]? with
    | none => rw [q] at p; exact p.elim
    | some o =>
      rw [q] at p
      cases o with
      | none => exact p.elim
      | some c =>
        dsimp only at p
        cases z : frz c with
        | none => rw [z] at p; exact p.elim
        | some y =>
          rw [z] at p
          obtain ⟨o, R', d, le⟩ := R.freeze q z
          exact p _ _ _ rfl le R' (.d d)
def eFrz (f : EF) : EF := fun e S => rbind (f e S) rfrz
theorem m_frz {e : Expr} {f : EF} (h : PM X Γ W e f) : PM X Γ W e (eFrz f) := by
  refine pe_wk h fun σ H Q ⟨env, w, er, R, p⟩ => ?_
  exact ⟨env, w, er, R, p.bind fun x u H v le R r p => rfrz_ok R r p⟩
/-! ### two operands -/
def OpM (Γ : Gr) (X : Cx) (r : R2) (g : Val → Val → Store → Res Val) : Prop := ∀ (w : Wd) (H : Hp) (x y : Val) (v u : V) (E : XK) (Q : VK), Rep (gx X Γ) w H → VR (gx X Γ) w x v → VR (gx X Γ) w y u → Pst (gx X Γ) (VR (gx X Γ)) E w (g x y w.S) Q → r v u H Q
def e2 (g : Val → Val → Store → Res Val) (f1 f2 : EF) : EF := fun e S => rbind (f1 e S) fun x S => rbind (f2 e S) fun y S => g x y S
theorem t_op {r : R2} {g : Val → Val → Store → Res Val} (hg : OpM Γ X r g) {f1 f2 : EF} : ∀ σ H Q, tM (gx X Γ) (VR (gx X Γ)) W (e2 g f1 f2) σ H Q → tOp r (tM (gx X Γ) (VR (gx X Γ)) W f1) (tM (gx X Γ) (VR (gx X Γ)) W f2) σ H Q := fun σ H Q ⟨env, w, er, R, p⟩ => by
  refine ⟨env, w, er, R, p.bind fun x u H v l R r p => ?_⟩
  refine ⟨env, u, er.up l, R, p.bind fun y u2 H v2 l2 R r2 p => ?_⟩
  exact hg u2 H x y v v2 _ Q R (r.up l2) r2 p
theorem m_op {op : Operator} {r : R2} {g : Val → Val → Store → Res Val} {a b : Expr} {pos : Pos} {f1 f2 : EF} (ho : OpR X (binaryOp op) r) (hg : OpM Γ X r g) (h1 : PM X Γ W a f1) (h2 : PM X Γ W b f2) : PM X Γ W (.BinOp a op b pos) (e2 g f1 f2) :=
  pe_wk (pe_op ho h1 h2) (t_op hg)
theorem m_cmp {op : CmpOp} {r : R2} {g : Val → Val → Store → Res Val} {a b : Expr} {pos : Pos} {f1 f2 : EF} (ho : OpR X (compareOp op) r) (hg : OpM Γ X r g) (h1 : PM X Γ W a f1) (h2 : PM X Γ W b f2) (hm : behindInMarks op b = false) :
    PM X Γ W (.Compare a [op] [b] pos) (e2 g f1 f2) := pe_wk (pe_cmpR ho h1 h2 hm) (t_op hg)
/-! ### tests -/
def rbool (x : Val) (S : Store) : Res Bool := match x with
  | .d (.bl b) => .ok b S
  | _ => .stuck
theorem rbool_ok {G : Gm} {E : XK} {w : Wd} {H : Hp} {x : Val} {v : V} {Q : Bool → Hp → Prop} (R : Rep G w H) (r : VR G w x v) (p : Pst G BR E w (rbool x w.S) Q) : ∃ c, v = .bl c ∧ Q c H := by
  unfold rbool at p
  split at p
  · next b => cases r with | d h => cases h; exact ⟨b, rfl, p.here R rfl⟩
  · exact p.elim
def bVal (f : EF) : BF := fun e S => rbind (f e S) rbool
theorem t_val {f : EF} {t : TT} (ht : ∀ σ H (Q : Bool → Hp → Prop), tM (gx X Γ) (VR (gx X Γ)) W f σ H (fun x H1 => ∃ c, x = .bl c ∧ Q c H1) → t σ H Q) : ∀ σ H Q, tM (gx X Γ) BR W (bVal f) σ H Q → t σ H Q := fun σ H Q ⟨env, w, er, R, p⟩ =>
  ht σ H Q ⟨env, w, er, R, p.bind fun x u H v le R r p => rbool_ok R r p⟩
theorem tm_val {e : Expr} {f : EF} (h : PM X Γ W e f) (he : ∀ whole, isTrue e X.env whole = (do let v ← whole; standAt e.pos; holding [v] (truthy v)) := by intro _; rfl) : TM X Γ W e (bVal f) := pt_wk (pt_val h he) (t_val fun _ _ _ h => h)
theorem tm_cmp {op : CmpOp} {r : R2} {g : Val → Val → Store → Res Val} {a b : Expr} {pos : Pos} {f1 f2 : EF} (ho : OpR X (compareOp op) r) (hg : OpM Γ X r g) (h1 : PM X Γ W a f1) (h2 : PM X Γ W b f2) (hm : behindInMarks op b = false) :
    TM X Γ W (.Compare a [op] [b] pos) (bVal (e2 g f1 f2)) := pt_wk (pt_cmpR ho h1 h2 hm) (t_val fun σ H Q h => t_op hg σ H _ h)
def bAnd (f g : BF) : BF := fun e S => rbind (f e S) fun b S => if b = true then g e S else .ok false S
def bOr (f g : BF) : BF := fun e S => rbind (f e S) fun b S => if b = true then .ok true S else g e S
def bNot (f : BF) : BF := fun e S => rbind (f e S) fun b S => .ok (!b) S
theorem tm_pw {e : Expr} {f : BF} (h : TWM X Γ W e f) : TM X Γ W e f := PW.pt h
theorem tw_and1 {a : Expr} {pos : Pos} {f : BF} (h : TM X Γ W a f) : TWM X Γ W (.BoolOp .And [a] pos) f := pw_and1 h
theorem tw_or1 {a : Expr} {pos : Pos} {f : BF} (h : TM X Γ W a f) : TWM X Γ W (.BoolOp .Or [a] pos) f := pw_or1 h
theorem tw_and {a b : Expr} {r : List Expr} {pos : Pos} {f g : BF} (h : TM X Γ W a f) (k : TWM X Γ W (.BoolOp .And (b :: r) pos) g) : TWM X Γ W (.BoolOp .And (a :: b :: r) pos) (bAnd f g) := by
  refine pw_wk (pw_and h k) fun σ H Q ⟨env, w, er, R, p⟩ => ?_
  refine ⟨env, w, er, R, p.bind fun x u H v l R r p => ?_⟩
  cases r
  cases x with
  | true => exact ⟨env, u, er.up l, R, p⟩
  | false => exact p.here R rfl
theorem tw_or {a b : Expr} {r : List Expr} {pos : Pos} {f g : BF} (h : TM X Γ W a f) (k : TWM X Γ W (.BoolOp .Or (b :: r) pos) g) : TWM X Γ W (.BoolOp .Or (a :: b :: r) pos) (bOr f g) := by
  refine pw_wk (pw_or h k) fun σ H Q ⟨env, w, er, R, p⟩ => ?_
  refine ⟨env, w, er, R, p.bind fun x u H v l R r p => ?_⟩
  cases r
  cases x with
  | false => exact ⟨env, u, er.up l, R, p⟩
  | true => exact p.here R rfl
theorem tm_not {a : Expr} {pos : Pos} {f : BF} (h : TM X Γ W a f) : TM X Γ W (.UnaryOp .Not a pos) (bNot f) := by
  refine pt_wk (pt_not h) fun σ H Q ⟨env, w, er, R, p⟩ => ?_
  refine ⟨env, w, er, R, p.bind fun x u H v l R r p => ?_⟩
  cases r
  exact p.here R rfl
/-- the truth of a thing -/
def rtruth (x : Val) (S : Store) : Res Bool := match x with
  | .d .non => .ok false S
  | .d (.bl b) => .ok b S
  | .d (.tup l) => .ok (!l.isEmpty) S
  | .d (.lst l) => .ok (!l.isEmpty) S
  | .tup l => .ok (!l.isEmpty) S
  | .ref i => match S[i]? with
    | some (some (.lst l)) => .ok (!l.isEmpty) S
    | _ => .stuck
  | _ => .stuck
theorem isEmpty_len {α β : Type} {l : List α} {m : List β} (h : l.length = m.length) : l.isEmpty = m.isEmpty := by
  cases l <;> cases m <;> first | rfl | (simp at h)
theorem rtruth_ok {E : XK} {w : Wd} {H : Hp} {x : Val} {v : V} {Q : Bool → Hp → Prop} (R : Rep (gx X Γ) w H) (r : VR (gx X Γ) w x v) (p : Pst (gx X Γ) BR E w (rtruth x w.S) Q) : ∃ k, TruV X.K v H k ∧ Q k H := by
  unfold rtruth at p
  split at p
  · cases r with | d h => cases h; exact ⟨_, rfl, p.here R rfl⟩
  · next b => cases r with | d h => cases h; exact ⟨b, rfl, p.here R rfl⟩
  · next l =>
    cases r with
    | d h =>
      cases h with
      | tup h r => exact ⟨!l.isEmpty, .inr (.inl ⟨_, ex_t R.sub' h, by rw [isEmpty_len r.len]⟩), p.here R rfl⟩
  · next l =>
    cases r with
    | d h =>
      cases h with
      | lst h r => exact ⟨!l.isEmpty, .inl ⟨_, sq_of (R.sub' _ _ h), by rw [isEmpty_len r.len]⟩, p.here R rfl⟩
  · next l =>
    cases r with
    | tup h r => exact ⟨!l.isEmpty, .inr (.inl ⟨_, ex_t R.sub' h, by rw [isEmpty_len r.len]⟩), p.here R rfl⟩
  · next i =>
    split at p
    · next l q =>
      cases r
      have k : ∃ vs, H (w.ρ i) = some (.lst vs) ∧ VRs (gx X Γ) w l vs := by obtain ⟨κ, R⟩ := R; exact R.cell i _ q
      obtain ⟨vs, h, r⟩ := k
      exact ⟨!l.isEmpty, .inl ⟨_, sq_of h, by rw [isEmpty_len r.len]⟩, p.here R rfl⟩
    · exact p.elim
  · exact p.elim
def bTruth (f : EF) : BF := fun e S => rbind (f e S) rtruth
theorem tm_truth {e : Expr} {f : EF} (h : PM X Γ W e f) (he : ∀ whole, isTrue e X.env whole = (do let v ← whole; standAt e.pos; holding [v] (truthy v)) := by intro _; rfl) : TM X Γ W e (bTruth f) := by
  refine pt_wk (pt_truth h he) fun σ H Q ⟨env, w, er, R, p⟩ => ?_
  exact ⟨env, w, er, R, p.bind fun x u H v l R r p => rtruth_ok R r p⟩
/-! ### and, or, not, if as values -/
def eAnd (f g : EF) : EF := fun e S => rbind (bVal f e S) fun b S => if b = true then g e S else .ok (.d (.bl false)) S
def eOr (f g : EF) : EF := fun e S => rbind (bVal f e S) fun b S => if b = true then .ok (.d (.bl true)) S else g e S
def eNot (f : EF) : EF := fun e S => rbind (bVal f e S) fun b S => .ok (.d (.bl (!b))) S
def eIf (c : BF) (f g : EF) : EF := fun e S => rbind (c e S) fun b S => if b = true then f e S else g e S
theorem rbind_assoc {α β γ : Type} (r : Res α) (k : α → Store → Res β) (m : β → Store → Res γ) : rbind (rbind r k) m = rbind r fun x S => rbind (k x S) m := by cases r <;> rfl
theorem m_one {a : Expr} {op} {pos : Pos} {f : EF} (h : PM X Γ W a f) : PM X Γ W (.BoolOp op [a] pos) f := pe_one h
theorem m_and {a b : Expr} {r : List Expr} {pos : Pos} {f g : EF} (h : PM X Γ W a f) (k : PM X Γ W (.BoolOp .And (b :: r) pos) g) : PM X Γ W (.BoolOp .And (a :: b :: r) pos) (eAnd f g) := by
  refine pe_wk (pe_and h k) fun σ H Q ⟨env, w, er, R, p⟩ => ?_
  unfold eAnd bVal at p
  rw [rbind_assoc] at p
  refine ⟨env, w, er, R, p.bind fun x u H v l R r p => ?_⟩
  obtain ⟨c, e, H2⟩ := rbool_ok (Q := fun c H => if c = true then tM (gx X Γ) (VR (gx X Γ)) W g σ H Q else Q (.bl false) H) R r (p.bind fun b u2 H v l2 R r p => by
    cases r
    cases b with
    | true => exact ⟨env, u2, (er.up l).up l2, R, p⟩
    | false => exact p.here R (.d (.bl _)))
  exact ⟨c, e, H2⟩
theorem m_or {a b : Expr} {r : List Expr} {pos : Pos} {f g : EF} (h : PM X Γ W a f) (k : PM X Γ W (.BoolOp .Or (b :: r) pos) g) : PM X Γ W (.BoolOp .Or (a :: b :: r) pos) (eOr f g) := by
  refine pe_wk (pe_or h k) fun σ H Q ⟨env, w, er, R, p⟩ => ?_
  unfold eOr bVal at p
  rw [rbind_assoc] at p
  refine ⟨env, w, er, R, p.bind fun x u H v l R r p => ?_⟩
  obtain ⟨c, e, H2⟩ := rbool_ok (Q := fun c H => if c = true then Q (.bl true) H else tM (gx X Γ) (VR (gx X Γ)) W g σ H Q) R r (p.bind fun b u2 H v l2 R r p => by
    cases r
    cases b with
    | false => exact ⟨env, u2, (er.up l).up l2, R, p⟩
    | true => exact p.here R (.d (.bl _)))
  exact ⟨c, e, H2⟩
theorem m_not {a : Expr} {pos : Pos} {f : EF} (h : PM X Γ W a f) : PM X Γ W (.UnaryOp .Not a pos) (eNot f) := by
  refine pe_wk (pe_not h) fun σ H Q ⟨env, w, er, R, p⟩ => ?_
  unfold eNot bVal at p
  rw [rbind_assoc] at p
  refine ⟨env, w, er, R, p.bind fun x u H v l R r p => ?_⟩
  exact rbool_ok R r (p.bind fun b u2 H v l2 R r p => by cases r; exact p.here R (.d (.bl _)))
/-- not, by truth -/
def eNotT (f : EF) : EF := fun e S => rbind (bTruth f e S) fun b S => .ok (.d (.bl (!b))) S
theorem m_notT {a : Expr} {pos : Pos} {f : EF} (h : PM X Γ W a f) : PM X Γ W (.UnaryOp .Not a pos) (eNotT f) := by
  refine pe_wk (pe_notT h) fun σ H Q ⟨env, w, er, R, p⟩ => ?_
  unfold eNotT bTruth at p
  rw [rbind_assoc] at p
  refine ⟨env, w, er, R, p.bind fun x u H v l R r p => ?_⟩
  exact rtruth_ok R r (p.bind fun b u2 H v l2 R r p => by cases r; exact p.here R (.d (.bl _)))
theorem m_if {c a b : Expr} {pos : Pos} {t : BF} {f g : EF} (hc : TM X Γ W c t) (h : PM X Γ W a f) (k : PM X Γ W b g) : PM X Γ W (.IfExp c a b pos) (eIf t f g) := by
  refine pe_wk (pe_ifExp hc h k) fun σ H Q ⟨env, w, er, R, p⟩ => ?_
  refine ⟨env, w, er, R, p.bind fun x u H v l R r p => ?_⟩
  cases r
  cases x with
  | true => exact ⟨env, u, er.up l, R, p⟩
  | false => exact ⟨env, u, er.up l, R, p⟩
/-! ### statements -/
def sRet (f : EF) : SF := fun e S => sbind e (f e S) fun x S => .rt x S
theorem ms_ret {a : Expr} {pos : Pos} {f : EF} (h : PM X Γ W a f) : SM X Γ W (.Return (some a) pos) (sRet f) := by
  refine ps_wk (ps_ret h) fun D σ H ⟨env, w, er, R, p⟩ => ?_
  exact ⟨env, w, er, R, Sst.bind er p fun x u H v l R er r p => p u H v rfl (Le.refl _) R r⟩
def sRetN : SF := fun e S => .rt (.d .non) S
theorem ms_retN {pos : Pos} : SM X Γ W (.Return none pos) sRetN := by
  refine ps_wk ps_retN fun D σ H ⟨env, w, er, R, p⟩ => ?_
  exact p w H _ rfl (Le.refl _) R (.d .non)
def sDrop (f : EF) : SF := fun e S => sbind e (f e S) fun _ S => .nx e S
theorem ms_expr {a : Expr} {pos : Pos} {f : EF} (h : PM X Γ W a f) (hs : swapsWith a none pos.line X.env = pure false := by rfl) : SM X Γ W (.Expr a pos) (sDrop f) := by
  refine ps_wk (ps_expr h hs) fun D σ H ⟨env, w, er, R, p⟩ => ?_
  exact ⟨env, w, er, R, Sst.bind er p fun x u H v l R er r p => p u H σ rfl (Le.refl _) R er⟩
def sDoc : SF := fun e S => .nx e S
theorem ms_doc {s j p pos} : SM X Γ W (.Expr (.Constant (.str s) j p) pos) sDoc :=
  ps_wk ps_doc fun D σ H ⟨env, w, er, R, p⟩ => p w H σ rfl (Le.refl _) R er
def sAsg (i : Nat) (f : EF) : SF := fun e S => sbind e (f e S) fun x S => .nx (e.set i (some x)) S
theorem ms_set {i : Nat} {x : Str} {a : Expr} {pos' pos : Pos} {f : EF} (hN : X.N.Nodup) (hi : X.N[i]? = some x) (hx : Loc X.env.scope x) (h : PM X Γ W a f) (hs : swapsWith a (some (.Name x pos')) pos.line X.env = pure false := by rfl)
    (hf : X.fn x = true ∨ X.env.scope.names.lookup x = some .local := by first | exact .inl rfl | exact .inr rfl | assumption) : SM X Γ W (.Assign [.Name x pos'] a pos) (sAsg i f) := by
  refine ps_wk (ps_set hN hi hx h hs hf) fun D σ H ⟨env, w, er, R, p⟩ => ?_
  exact ⟨env, w, er, R, Sst.bind er p fun x u H v l R er r p => p u H _ rfl (Le.refl _) R (er.set r i)⟩
def sIf (c : BF) (f g : SF) : SF := fun e S => sbind e (c e S) fun b S => if b = true then f e S else g e S
theorem ms_if {c : Expr} {a b : List Stmt} {pos : Pos} {t : BF} {f g : SF} (hc : TM X Γ W c t) (h : SMs X Γ W a f) (k : SMs X Γ W b g) : SM X Γ W (.If c a b pos) (sIf t f g) := by
  refine ps_wk (ps_if hc h k) fun D σ H ⟨env, w, er, R, p⟩ => ?_
  refine ⟨env, w, er, R, Sst.bind er p fun x u H v l R er r p => ?_⟩
  cases r
  cases x with
  | true => exact ⟨env, u, er, R, p⟩
  | false => exact ⟨env, u, er, R, p⟩
def sPass : SF := fun e S => .nx e S
theorem ms_pass {pos : Pos} : SM X Γ W (.Pass pos) sPass := ps_wk ps_pass fun D σ H ⟨env, w, er, R, p⟩ => p w H σ rfl (Le.refl _) R er
def sCont : SF := fun e S => .ct e S
theorem ms_continue {pos : Pos} : SM X Γ W (.Continue pos) sCont := ps_wk ps_continue fun D σ H ⟨env, w, er, R, p⟩ => p w H σ rfl (Le.refl _) R er
def sBreak : SF := fun e S => .bk e S
theorem ms_break {pos : Pos} : SM X Γ W (.Break pos) sBreak := ps_wk ps_break fun D σ H ⟨env, w, er, R, p⟩ => p w H σ rfl (Le.refl _) R er
end
end Z
set_option Elab.async false
set_option linter.all false
set_option maxRecDepth 100000
set_option maxHeartbeats 4000000
namespace Z
open PySem L2 Evl NdefX LamX PyProof.Rows
/-! ## room -/
structure Rm (n : Nat) (A : Around) : Prop where
  hd : A.handled = none
  dp : A.depth + n + 20 < recursionLimit
  un : A.units + 8 * n + 400 < cLine
section
variable {A : Around} {n m : Nat}
theorem Rm.mono (r : Rm n A) (h : m ≤ n) : Rm m A := ⟨r.hd, by have := r.dp; omega, by have := r.un; omega⟩
theorem Rm.deep (r : Rm (n + 1) A) (env : Env) : Rm n (A.deeper env) := by
  have h1 := r.dp
  have h2 := r.un
  refine ⟨r.hd, ?_, ?_⟩
  · show (A.depth + 1) + n + 20 < _
    omega
  · show (A.units + 3) + 8 * n + 400 < _
    omega
theorem Rm.mk' (r : Rm (n + 1) A) (C : Addr) (us : List Value) (kw : List (Str × Value)) : Rm n (A.under (.builtin "type.__call__" ⟨.ref C :: us, kw⟩)) := by
  have h1 := r.dp
  have h2 := r.un
  refine ⟨r.hd, ?_, ?_⟩
  · rw [make_depth]; omega
  · rw [make_units]; omega
theorem Rm.room (r : Rm n A) : Room 2 A := ⟨r.hd, by have := r.dp; omega, by have := r.un; omega⟩
theorem Rm.hu (r : Rm n A) : A.units + 64 < cLine := by have := r.un; omega
theorem Rm.hu1 (r : Rm n A) : A.units + 1 < cLine := by have := r.un; omega
theorem Rm.hu0 (r : Rm n A) : A.units < cLine := by have := r.un; omega
end
/-! ## what a def promises -/
structure FnD (P : Program) (wd : World) (K : PySem.W.Frag) (mg : Str → Option Value) (base : Heap) (n : Nat) (f : Addr) (fd : FuncData) (ps : List Str) (sp : Sp) : Prop where
  len : ∀ vs H Q E, sp vs H Q E → vs.length = ps.length
  go : ∀ (A : Around) (outer : List Env) (s : Shared) (H : Hp) (a : Args) (us : List Value) (vs : List V) (Q : VK) (E : XK), Rm n A → Env0 P wd K mg base A outer s H →
    BindsTo s fd a (ps.zip us) → Vals vs us → sp vs H Q E → codeAny (model P wd) A (.call (.ref f) a) (L2.CR (L2.CX P wd) outer P wd H s Q E) s
abbrev VF := List Val → Store → Res Val
def spM (G : Gm) (f : VF) : Sp := fun vs H Q E => ∃ xs w, VRs G w xs vs ∧ Rep G w H ∧ Pst G (VR G) E w (f xs w.S) Q
/-- the state as a caller left it, but for what the call has written -/
noncomputable def rtrim {α : Type} (S : Store) (r : Store → Res α) (S' : Store) : Res α := match trim S S' with
  | some T => r T
  | none => .stuck
noncomputable def outT (S : Store) (x : Val) (S' : Store) : Res Val := match x with
  | .d y => rtrim S (.ok (.d y)) S'
  | .tup l => if belows S.length l = true then rtrim S (.ok (.tup l)) S' else .stuck
  | .ref i => if i < S.length then rtrim S (.ok (.ref i)) S' else match S'[i]? with
    | some (some c) => match frz c with
      | some y => rtrim S (.ok (.d y)) (S'.set i none)
      | none => .stuck
    | _ => .stuck
/-- a def by its body: what it has made is forgotten -/
noncomputable def fnT (np N : Nat) (body : SF) : VF := fun xs S => if xs.length = np then (match body (xs.map some ++ List.replicate (N - np) none) S with
  | .nx _ S' => outT S (.d .non) S'
  | .rt x S' => outT S x S'
  | .exc x _ S' => rtrim S (.exc x) S'
  | _ => .stuck) else .stuck
/-- .. is kept -/
def fnA (np N : Nat) (body : SF) : VF := fun xs S => if xs.length = np then (match body (xs.map some ++ List.replicate (N - np) none) S with
  | .nx _ S' => .ok (.d .non) S'
  | .rt x S' => .ok x S'
  | .exc x _ S' => .exc x S'
  | _ => .stuck) else .stuck
section
variable {G : Gm} {w w1 : Wd} {H H1 : Hp} {E : XK} {Q : VK} {x : Val} {v : V}
theorem rtrim_ok {α β : Type} {R : Wd → α → β → Prop} {Q : β → Hp → Prop} {r : Store → Res α} {S' : Store} {Q' : Prop} (R0 : Rep G w H) (e : w1.S = S') (le : Le w w1) (R1 : Rep G w1 H1) (p : Pst G R E w (rtrim w.S r S') Q)
    (k : ∀ w2, Le w w2 → Rep G w2 H1 → w2 = w1.cut w.S.length → Pst G R E w (r w2.S) Q → Q' ) : Q' := by
  unfold rtrim at p
  split at p
  · next T q =>
    obtain ⟨h1, rfl, h3⟩ := trim_some q
    subst e
    refine k (w1.cut w.S.length) ⟨le.F, le.O, le.X, ?_, le.ρ⟩ (R1.cut h1 fun i c hi hc => ?_) rfl p
    · show _ ≤ (w1.S.take _).length
      rw [List.length_take, Nat.min_eq_left h1]; exact Nat.le_refl _
    · rcases h3 i hi with z | z
      · exact R0.blw (show live w.S i c by unfold live; rw [← z]; exact hc)
      · exact z c hc
  · exact p.elim
theorem outT_ok {S' : Store} (R0 : Rep G w H) (e : w1.S = S') (le : Le w w1) (R1 : Rep G w1 H1) (r : VR G w1 x v) (p : Pst G (VR G) E w (outT w.S x S') Q) : Q v H1 := by
  unfold outT at p
  cases r with
  | @d y v h => exact rtrim_ok R0 e le R1 p fun w2 l R2 z p => p w2 H1 v rfl l R2 (by subst z; exact .d h)
  | @tup a vs l h r =>
    dsimp only at p
    split at p
    · next b => exact rtrim_ok R0 e le R1 p fun w2 l' R2 z p => p w2 H1 _ rfl l' R2 (by subst z; exact .tup h (r.cut le.n b))
    · exact p.elim
  | @ref i hi =>
    dsimp only at p
    split at p
    · next b =>
      refine rtrim_ok R0 e le R1 p fun w2 l' R2 z p => p w2 H1 _ rfl l' R2 ?_
      subst z
      exact VR.cut le.n (by simpa only [below] using decide_eq_true b) (.ref hi)
    · split at p
      · next c q =>
        split at p
        · next y z =>
          rw [← e] at q
          obtain ⟨o, R', d, le'⟩ := R1.freeze q z
          exact rtrim_ok R0 (by rw [← e]; rfl) (le.trans le') R' p fun w2 l' R2 z p => p w2 H1 _ rfl l' R2 (by subst z; exact .d d)
        · exact p.elim
      · exact p.elim
theorem start_er {xs : List Val} {vs : List V} {N : List Str} (r : VRs G w xs vs) : ER G w (xs.map some ++ List.replicate (N.length - xs.length) none) (L2.start N vs) := by
  unfold L2.start
  rw [r.len]
  exact (ER.vals r).app (ER.nones _)
/-- what is asked of a body -/
theorem fnT_body {body : SF} {np N : Nat} {xs : List Val} {σ : L2.St} (R : Rep G w H) (er : xs.length = np → ER G w (xs.map some ++ List.replicate (N - np) none) σ) (p : Pst G (VR G) E w (fnT np N body xs w.S) Q) :
    tSM G (fun c d _ H => E c d H) body { nx := fun _ H' => Q .non H', rt := Q } σ H := by
  unfold fnT at p
  split at p
  · next hn =>
    refine ⟨_, w, er hn, R, ?_⟩
    cases q : body (xs.map some ++ List.replicate (N - np) none) w.S with
    | nx e S => rw [q] at p; exact fun u H v es l R1 er => outT_ok R es l R1 (.d .non) p
    | rt x S => rw [q] at p; exact fun u H v es l R1 r => outT_ok R es l R1 r p
    | exc x e S => rw [q] at p; exact fun u H σ c d es l R1 er z => rtrim_ok R es l R1 p fun w2 l' R2 zz p => p w2 H c d rfl l' R2 (by subst zz; exact z)
    | bk e S => rw [q] at p; exact p.elim
    | ct e S => rw [q] at p; exact p.elim
    | stuck => rw [q] at p; exact p.elim
  · exact p.elim
theorem fnA_body {body : SF} {np N : Nat} {xs : List Val} {σ : L2.St} (R : Rep G w H) (er : xs.length = np → ER G w (xs.map some ++ List.replicate (N - np) none) σ) (p : Pst G (VR G) E w (fnA np N body xs w.S) Q) :
    tSM G (fun c d _ H => E c d H) body { nx := fun _ H' => Q .non H', rt := Q } σ H := by
  unfold fnA at p
  split at p
  · next hn =>
    refine ⟨_, w, er hn, R, ?_⟩
    cases q : body (xs.map some ++ List.replicate (N - np) none) w.S with
    | nx e S => rw [q] at p; exact fun u H v es l R1 er => p u H _ es l R1 (.d .non)
    | rt x S => rw [q] at p; exact fun u H v es l R1 r => p u H _ es l R1 r
    | exc x e S => rw [q] at p; exact fun u H σ c d es l R1 er z => p u H c d es l R1 z
    | bk e S => rw [q] at p; exact p.elim
    | ct e S => rw [q] at p; exact p.elim
    | stuck => rw [q] at p; exact p.elim
  · exact p.elim
end
section
variable {P : Program} {wd : World} {K : PySem.W.Frag} {mg : Str → Option Value} {base : Heap} {n : Nat} {f : Addr} {fd : FuncData} {N ps : List Str} {sp : Sp}
/-- the rule for a def, by its body -/
theorem fnd_of {x qual : Str} {st : Stmt} (F : Fun K x qual st f fd) (S : FnScope N ps (defScope st)) (len : ∀ vs H Q E, sp vs H Q E → vs.length = ps.length)
    (hb : ∀ (cdv : Value) (A : Around) (outer : List Env) (s : Shared) (H : Hp) (vs : List V) (Q : VK) (E : XK), Rm n (A.deeper (envOfC qual (defScope st) s.heap.objs.size f cdv)) → sp vs H Q E →
      ∃ t, PSs (cxOf (L2.CX P wd) P wd K mg base N qual (defScope st) f cdv A outer s H E) (defBody st) t ∧ t { nx := fun _ H' => Q .non H', rt := Q } (L2.start N vs) H) : FnD P wd K mg base (n + 1) f fd ps sp := by
  obtain ⟨oc, od, kV, doc, pm, an, cdv, ct, osl, rfl, lk, hcd⟩ := F.ex
  refine ⟨len, fun A outer s H a us vs Q E hr e0 bd r hsp => ?_⟩
  have hl := len _ _ _ _ hsp
  have KX : K.In s.heap := e0.mod.kin.keeps fun b o e => (e0.bs b o e).1
  have lim : s.heap.NoLimit := e0.mod.nolimit.keeps fun b o e => (e0.bs b o e).1
  have kinds : ∀ y ∈ ps.zip us, (defScope st).names.lookup y.1 = some .local ∨ ((defScope st).names.lookup y.1 = some .cell ∧ ((cellsFrom (s.heap.objs.size + 1) (defScope st).names []).lookup y.1).isSome = true) := fun y hy => by
    rcases S.par y.1 (List.of_mem_zip hy).1 with q | q
    · exact .inl q
    · exact .inr ⟨q, PySem.W.cellsFrom_some _ _ _ (.inl q)⟩
  have dpt : A.depth < recursionLimit := by have := hr.dp; omega
  refine codeAny_call_function dpt (KX _ _ lk) rfl S.co S.gen rfl (PySem.W.codeRec_of KX hcd) (bd _ _ _ _ ?_)
  refine wpAny_newFunctionEnv_cells S.kind kinds fun env he s1 x => ?_
  subst he
  refine ⟨lim.keeps x.toInCall.keep, codeAny_func ?_⟩
  obtain ⟨t, ht, hq⟩ := hb cdv A outer s H vs Q E (hr.deep _) hsp
  have I0 := inv_start (CX := L2.CX P wd) (cd := cdv) (f := f) (qual := qual) (E := E) S hr.hd e0 hl r x
  refine wpAny_mono (ht.run [] s1 (L2.start N vs) H _ I0 hq) (fun fl s' hs => ?_) fun e s' hs => hs
  cases fl with
  | ret u => obtain ⟨v, _, H', J, rv, q⟩ := hs; exact ⟨v, H', J.os, J.bare, J.base, J.hok, rv, q⟩
  | next => obtain ⟨_, H', J, q⟩ := hs; exact ⟨.non, H', J.os, J.bare, J.base, J.hok, rfl, q⟩
  | brk => obtain ⟨_, _, _, q⟩ := hs; exact q.elim
  | cont => obtain ⟨_, _, _, q⟩ := hs; exact q.elim
theorem FnD.mono {m : Nat} (F : FnD P wd K mg base m f fd ps sp) (h : m ≤ n) : FnD P wd K mg base n f fd ps sp := ⟨F.len, fun A o s H a us vs Q E r => F.go A o s H a us vs Q E (r.mono h)⟩
theorem fnd_stuck {G : Gm} : FnD P wd K mg base n f fd ps (spM G fun _ _ => .stuck) := ⟨fun _ _ _ _ ⟨_, _, _, _, h⟩ => h.elim, fun _ _ _ _ _ _ _ _ _ _ _ _ _ ⟨_, _, _, _, h⟩ => h.elim⟩
/-- .. by what its body comes to -/
theorem fnd_T {x qual : Str} {st : Stmt} {C : Str → Addr} {clo : Nat → Option CloSt} {tabs : List NTab} {body : SF} {np k : Nat} (F : Fun K x qual st f fd) (S : FnScope N ps (defScope st)) (hp : ps.length = np) (hk : N.length = k)
    (hb : ∀ (cdv : Value) (A : Around) (outer : List Env) (s : Shared) (H : Hp) (E : XK), Rm n (A.deeper (envOfC qual (defScope st) s.heap.objs.size f cdv)) →
      SMs (cxOf (L2.CX P wd) P wd K mg base N qual (defScope st) f cdv A outer s H E) ⟨C, clo, tabs⟩ (fun c d _ H => E c d H) (defBody st) body) : FnD P wd K mg base (n + 1) f fd ps (spM ⟨K, C, clo, tabs⟩ (fnT np k body)) := by
  subst hp hk
  refine fnd_of F S (fun vs H Q E ⟨xs, w, r, R, p⟩ => ?_) fun cdv A outer s H vs Q E hr ⟨xs, w, r, R, p⟩ => ⟨_, hb cdv A outer s H E hr, fnT_body R (fun hn => by have := start_er (N := N) r; rwa [hn] at this) p⟩
  rw [← r.len]
  unfold fnT at p
  split at p
  · assumption
  · exact p.elim
theorem fnd_A {x qual : Str} {st : Stmt} {C : Str → Addr} {clo : Nat → Option CloSt} {tabs : List NTab} {body : SF} {np k : Nat} (F : Fun K x qual st f fd) (S : FnScope N ps (defScope st)) (hp : ps.length = np) (hk : N.length = k)
    (hb : ∀ (cdv : Value) (A : Around) (outer : List Env) (s : Shared) (H : Hp) (E : XK), Rm n (A.deeper (envOfC qual (defScope st) s.heap.objs.size f cdv)) →
      SMs (cxOf (L2.CX P wd) P wd K mg base N qual (defScope st) f cdv A outer s H E) ⟨C, clo, tabs⟩ (fun c d _ H => E c d H) (defBody st) body) : FnD P wd K mg base (n + 1) f fd ps (spM ⟨K, C, clo, tabs⟩ (fnA np k body)) := by
  subst hp hk
  refine fnd_of F S (fun vs H Q E ⟨xs, w, r, R, p⟩ => ?_) fun cdv A outer s H vs Q E hr ⟨xs, w, r, R, p⟩ => ⟨_, hb cdv A outer s H E hr, fnA_body R (fun hn => by have := start_er (N := N) r; rwa [hn] at this) p⟩
  rw [← r.len]
  unfold fnA at p
  split at p
  · assumption
  · exact p.elim
end
/-! ## calls -/
section
variable {X : Cx} {Γ : Gr} {W : WX} {n : Nat} {f C : Addr} {fd : FuncData} {ps : List Str} {x m : Str} {p pos apos : Pos} {e o : Expr} {es : List Expr} {g : VF} {fo : EF} {fa : AF}
theorem run_d {sp : Sp} {pins : List (Addr × Obj)} {σ : L2.St} {H : Hp} {s : Shared} {Q : VK} {us : List Value} {vs : List V} (F : FnD X.prog X.w X.K X.mg X.base n f fd ps sp) (hr : Rm n X.A) (hb : Binds X.K fd ps []) (tk : Takes X W)
    (I : Inv X pins σ H s) (r : Vals vs us) (h : sp vs H Q (fun c d H => W c d σ H)) : wpAny (model X.prog X.w) X.A (call (.ref f) us) (EP X pins σ Q) X.xe s := by
  have hl : us.length = ps.length := by rw [← r.length]; exact F.len _ _ _ _ h
  have bd := hb s us I.kIn (by rw [List.append_nil]; exact hl)
  rw [List.append_nil] at bd
  refine wpAny_call (codeAny_mono (F.go X.A X.stack s H ⟨us, []⟩ us vs Q _ hr I.env0 bd r h) fun r s' hq => ?_)
  cases r with
  | error e => exact tk e s' (XE.of_call I (fun _ _ _ h => h) hq)
  | ok fl =>
    cases fl with
    | ret u => exact I.after hq
    | next => exact hq.elim
    | brk => exact hq.elim
    | cont => exact hq.elim
def eCall (g : VF) (fa : AF) : EF := fun e S => rbind (fa e S) g
/-- the arguments, then the def -/
theorem spM_of {σ : L2.St} {H : Hp} {Q : VK} (h : tM (gx X Γ) (VR (gx X Γ)) W (eCall g fa) σ H Q) : tM (gx X Γ) (VRs (gx X Γ)) W fa σ H fun vs H1 => spM (gx X Γ) g vs H1 Q (fun c d H => W c d σ H) := by
  obtain ⟨env, w, er, R, p⟩ := h
  exact ⟨env, w, er, R, p.bind fun l u H vs le R r p => ⟨l, u, r, R, p⟩⟩
theorem m_call (F : FnD X.prog X.w X.K X.mg X.base n f fd ps (spM (gx X Γ) g)) (hr : Rm n X.A) (hg : Gl X x) (hm : X.mg x = some (.ref f)) (hk : PySem.W.keepIn X.K (.ref f) = true) (hb : Binds X.K fd ps []) (tk : Takes X W)
    (ha : AM X Γ W (e :: es) fa) (hd : (x == ("__debug__" : Str)) = false := by decide) (he : starEach (e :: es) X.env = (false, eval e X.env) :: starEach es X.env := by rfl) (hpl : (backTo pos (starEach es X.env)).any (·.1) = false := by rfl) :
    PM X Γ W (.Call (.Name x p) (e :: es) [] pos) (eCall g fa) := by
  refine ⟨fun pins s σ H Q I h => ?_⟩
  refine wpAny_Call_Name_kw (ld_glob I hg hm ?_ hd)
  refine PySem.W.callWith_K (h₀ := X.base) I.ok.mod.kin hk (thn (ha.run pos pins s σ H _ I (spM_of h)) fun us s1 ⟨vs, H1, I1, r, q⟩ => ⟨I1.kIn, ?_⟩) he hpl
  exact run_d F hr hb tk I1 r q
def eCall0 (g : VF) : EF := fun _ S => g [] S
theorem m_call0 (F : FnD X.prog X.w X.K X.mg X.base n f fd ps (spM (gx X Γ) g)) (hr : Rm n X.A) (hg : Gl X x) (hm : X.mg x = some (.ref f)) (hk : PySem.W.keepIn X.K (.ref f) = true) (hb : Binds X.K fd ps []) (tk : Takes X W)
    (hd : (x == ("__debug__" : Str)) = false := by decide) : PM X Γ W (.Call (.Name x p) [] [] pos) (eCall0 g) := by
  refine ⟨fun pins s σ H Q I ⟨env, w, er, R, q⟩ => ?_⟩
  refine wpAny_Call_Name_kw (ld_glob I hg hm ?_ hd)
  exact PySem.W.callWith_K0 I.kIn hk (run_d (us := []) F hr hb tk I .nil ⟨[], w, .nil, R, q⟩)
/-! ### methods -/
/-- an own instance that has no field of that name -/
def isIns (c m : Str) (x : Val) (S : Store) : Bool := match x with
  | .ref i => match S[i]? with
    | some (some (.ins c' l)) => decide (c' = c) && (l.lookup m).isNone
    | _ => false
  | _ => false
theorem lookup_rel {α β : Type} : ∀ {l : List (Str × α)} {l' : List (Str × β)} (m : Str), l'.map (·.1) = l.map (·.1) → (l'.lookup m).isNone = (l.lookup m).isNone
  | [], [], _, _ => rfl
  | [], _ :: _, _, h => by simp at h
  | _ :: _, [], _, h => by simp at h
  | (a, _) :: l, (b, _) :: l', m, h => by
    simp only [List.map_cons, List.cons.injEq] at h
    obtain ⟨rfl, h⟩ := h
    simp only [List.lookup_cons]
    split
    · rfl
    · exact lookup_rel m h
theorem isIns_ok {G : Gm} {w : Wd} {H : Hp} {c m : Str} {y : Val} {v : V} (R : Rep G w H) (r : VR G w y v) (h : isIns c m y w.S = true) : ∃ a dx fs, v = .ref a ∧ H a = some (.ins (G.C c) dx fs) ∧ fs.lookup m = none := by
  unfold isIns at h
  split at h
  · next i =>
    split at h
    · next c' l q =>
      rw [Bool.and_eq_true, decide_eq_true_eq] at h
      obtain ⟨rfl, h⟩ := h
      cases r
      obtain ⟨κ, R⟩ := R
      obtain ⟨dx, fs, ha, hk, _⟩ := R.cell i _ q
      refine ⟨_, dx, fs, rfl, ha, ?_⟩
      rw [← lookup_rel m hk] at h
      simpa using h
    · cases h
  · cases h
def eMeth (c m : Str) (g : VF) (fo : EF) (fa : AF) : EF := fun e S => rbind (fo e S) fun x S => if isIns c m x S = true then rbind (fa e S) fun l S => g (x :: l) S else .stuck
/-- o.m(e, ..): C the class of o -/
def tMeD (C : Addr) (m : Str) (sp : Sp) (W : WX) (ta : TE) (t : TA) : TE := fun σ H Q => ta σ H fun x H1 => ∃ a dx fs, x = .ref a ∧ H1 a = some (.ins C dx fs) ∧ fs.lookup m = none ∧ t σ H1 fun vs H2 => sp (x :: vs) H2 Q (fun c d H => W c d σ H)
theorem pe_meD {sp : Sp} {pl : Sem Bool} {ta : TE} {t : TA} (he : PE X o ta) (c : Cls X.K C) (hm : Meth X.K C m f) (F : FnD X.prog X.w X.K X.mg X.base n f fd ps sp) (hr : Rm n X.A) (hb : Binds X.K fd ps []) (tk : Takes X W)
    (ha : PA X (e :: es) t) (hst : starEach (e :: es) X.env = (false, eval e X.env) :: starEach es X.env) (hpl : (backTo pos (starEach es X.env)).any (·.1) = false)
    (ht : eval (.Call (.Attribute o m apos) (e :: es) [] pos) X.env = (do
      let v ← eval o X.env
      standAt apos.atName
      let (f, l) ← holding [v] (getMethod v m pl)
      callWith pos f l (backTo pos (starEach (e :: es) X.env)) (backToKw pos (keywordEach [] X.env)))) :
    PE X (.Call (.Attribute o m apos) (e :: es) [] pos) (tMeD C m sp W ta t) := by
  refine ⟨fun pins s σ H Q I h => ?_⟩
  refine PySem.W.methodCall_KW (pl := pl) (thn (he.run pins s σ H _ I h) fun u s1 ⟨x, H1, I1, rx, a, dx, fs, ex, ea, l, q⟩ => ?_) ht
  subst ex
  obtain rfl : u = Value.ref a := rx
  refine getmeth_ok I1 ea c hm l ?_
  refine PySem.W.callWith_K (first := [.ref a]) (h₀ := X.base) I.ok.mod.kin hm.kp (thn (ha.run pos pins s1 σ H1 _ I1 q) fun us s2 ⟨vs, H2, I2, r, q2⟩ => ⟨I2.kIn, ?_⟩) hst hpl
  exact run_d (us := .ref a :: us) (vs := .ref a :: vs) F hr hb tk I2 (.cons rfl r) q2
theorem pe_meD0 {sp : Sp} {pl : Sem Bool} {ta : TE} (he : PE X o ta) (c : Cls X.K C) (hm : Meth X.K C m f) (F : FnD X.prog X.w X.K X.mg X.base n f fd ps sp) (hr : Rm n X.A) (hb : Binds X.K fd ps []) (tk : Takes X W)
    (ht : eval (.Call (.Attribute o m apos) [] [] pos) X.env = (do
      let v ← eval o X.env
      standAt apos.atName
      let (f, l) ← holding [v] (getMethod v m pl)
      callWith pos f l (backTo pos (starEach [] X.env)) (backToKw pos (keywordEach [] X.env)))) :
    PE X (.Call (.Attribute o m apos) [] [] pos) (tMeD C m sp W ta tNil) := by
  refine ⟨fun pins s σ H Q I h => ?_⟩
  refine PySem.W.methodCall_KW (pl := pl) (thn (he.run pins s σ H _ I h) fun u s1 ⟨x, H1, I1, rx, a, dx, fs, ex, ea, l, q⟩ => ?_) ht
  subst ex
  obtain rfl : u = Value.ref a := rx
  refine getmeth_ok I1 ea c hm l ?_
  exact PySem.W.callWith_K0 (first := [.ref a]) I1.kIn hm.kp (run_d (us := [.ref a]) (vs := [.ref a]) F hr hb tk I1 (.cons rfl .nil) q)
theorem t_meth {cn : Str} (hC : Γ.C cn = C) : ∀ σ H Q, tM (gx X Γ) (VR (gx X Γ)) W (eMeth cn m g fo fa) σ H Q → tMeD C m (spM (gx X Γ) g) W (tM (gx X Γ) (VR (gx X Γ)) W fo) (tM (gx X Γ) (VRs (gx X Γ)) W fa) σ H Q := fun σ H Q ⟨env, w, er, R, p⟩ => by
  refine ⟨env, w, er, R, p.bind fun y u H v le R r p => ?_⟩
  split at p
  · next h =>
    obtain ⟨a, dx, fs, rfl, h1, h2⟩ := isIns_ok R r h
    have h1' : H a = some (.ins (Γ.C cn) dx fs) := h1
    rw [hC] at h1'
    exact ⟨a, dx, fs, rfl, h1', h2, env, u, er.up le, R, p.bind fun l u2 H2 vs le2 R2 r2 p => ⟨y :: l, u2, .cons (r.up le2) r2, R2, p⟩⟩
  · exact p.elim
theorem m_meth {pl : Sem Bool} {cn : Str} (ho : PM X Γ W o fo) (hC : Γ.C cn = C) (c : Cls X.K C) (hm : Meth X.K C m f) (F : FnD X.prog X.w X.K X.mg X.base n f fd ps (spM (gx X Γ) g)) (hr : Rm n X.A) (hb : Binds X.K fd ps []) (tk : Takes X W)
    (ha : AM X Γ W (e :: es) fa) (hst : starEach (e :: es) X.env = (false, eval e X.env) :: starEach es X.env := by rfl) (hpl : (backTo pos (starEach es X.env)).any (·.1) = false := by rfl)
    (ht : eval (.Call (.Attribute o m apos) (e :: es) [] pos) X.env = (do
      let v ← eval o X.env
      standAt apos.atName
      let (f, l) ← holding [v] (getMethod v m pl)
      callWith pos f l (backTo pos (starEach (e :: es) X.env)) (backToKw pos (keywordEach [] X.env))) := by rfl) :
    PM X Γ W (.Call (.Attribute o m apos) (e :: es) [] pos) (eMeth cn m g fo fa) := pe_wk (pe_meD ho c hm F hr hb tk ha hst hpl ht) (t_meth hC)
theorem m_meth0 {pl : Sem Bool} {cn : Str} (ho : PM X Γ W o fo) (hC : Γ.C cn = C) (c : Cls X.K C) (hm : Meth X.K C m f) (F : FnD X.prog X.w X.K X.mg X.base n f fd ps (spM (gx X Γ) g)) (hr : Rm n X.A) (hb : Binds X.K fd ps []) (tk : Takes X W)
    (ht : eval (.Call (.Attribute o m apos) [] [] pos) X.env = (do
      let v ← eval o X.env
      standAt apos.atName
      let (f, l) ← holding [v] (getMethod v m pl)
      callWith pos f l (backTo pos (starEach [] X.env)) (backToKw pos (keywordEach [] X.env))) := by rfl) :
    PM X Γ W (.Call (.Attribute o m apos) [] [] pos) (eMeth cn m g fo aNil) := pe_wk (pe_meD0 ho c hm F hr hb tk ht) fun σ H Q h => by
  have q := t_meth (fa := aNil) hC σ H Q h
  obtain ⟨env, w, er, R, p⟩ := q
  refine ⟨env, w, er, R, p.imp ?_⟩
  rintro v H1 ⟨a, dx, fs, e1, e2, e3, env', w', er', R', p'⟩
  exact ⟨a, dx, fs, e1, e2, e3, p'.here R' .nil⟩
/-! ### new instances -/
def eMake (cn : Str) (g : VF) (fa : AF) : EF := fun e S => rbind (fa e S) fun l S => rbind (g (.ref S.length :: l) (S ++ [some (.ins cn [])])) fun r S' => match r with
  | .d .non => .ok (.ref S.length) S'
  | _ => .stuck
def tMkD (C : Addr) (sp : Sp) (W : WX) (t : TA) : TE := fun σ H Q => t σ H fun vs H1 => ∀ x dx, H1 x = none → H1 dx = none → dx ≠ x →
  sp (.ref x :: vs) (upd (upd H1 dx (.own x)) x (.ins C dx [])) (fun v H2 => v = .non ∧ Q (.ref x) H2) (fun c d H => W c d σ H)
theorem run_mkD {sp : Sp} {pins : List (Addr × Obj)} {σ : L2.St} {H : Hp} {s : Shared} {Q : VK} {us : List Value} {vs : List V} (M : Mk X.K C f) (F : FnD X.prog X.w X.K X.mg X.base n f fd ps sp) (hr : Rm (n + 1) X.A) (hb : Binds X.K fd ps []) (tk : Takes X W)
    (I : Inv X pins σ H s) (r : Vals vs us) (h : ∀ x dx, H x = none → H dx = none → dx ≠ x → sp (.ref x :: vs) (upd (upd H dx (.own x)) x (.ins C dx [])) (fun v H2 => v = .non ∧ Q (.ref x) H2) (fun c d H => W c d σ H)) :
    wpAny (model X.prog X.w) X.A (call (.ref C) us) (EP X pins σ Q) X.xe s := by
  have hq := h (s.heap.objs.size + 1) s.heap.objs.size (I.hok.fresh (Nat.le_succ _)) (I.hok.fresh (Nat.le_refl _)) (Nat.ne_of_lt (Nat.lt_succ_self _))
  have I2 := Inv.made (C := C) I
  have r2 : Vals (V.ref (s.heap.objs.size + 1) :: vs) (Value.ref (s.heap.objs.size + 1) :: us) := .cons rfl r
  have hl : (Value.ref (s.heap.objs.size + 1) :: us).length = ps.length := by rw [← r2.length]; exact F.len _ _ _ _ hq
  have bd := hb _ (Value.ref (s.heap.objs.size + 1) :: us) I2.kIn (by rw [List.append_nil]; exact hl)
  rw [List.append_nil] at bd
  refine wpAny_call (make_map (f := f) I.kIn M.makes M.init (beq_iff_eq.mp M.fn) (codeAny_mono (F.go _ X.stack _ _ ⟨Value.ref (s.heap.objs.size + 1) :: us, []⟩ _ _ _ _ (hr.mk' C us []) (I2.env0.make C us []) bd r2 hq) fun r s' hq' => ?_))
  cases r with
  | error e => exact tk e s' (XE.of_call I2 (fun _ _ _ h => h) hq')
  | ok fl =>
    cases fl with
    | ret u =>
      obtain ⟨v, H', I3, rv, ev, q3⟩ := I2.after hq'
      subst ev
      exact ⟨rv, V.ref (s.heap.objs.size + 1), H', I3, rfl, q3⟩
    | next => exact hq'.elim
    | brk => exact hq'.elim
    | cont => exact hq'.elim
theorem t_make {cn : Str} (hC : Γ.C cn = C) {l : List Val} {vs : List V} {w : Wd} {H : Hp} {E : XK} {Q : VK} (R : Rep (gx X Γ) w H) (r : VRs (gx X Γ) w l vs)
    (q : Pst (gx X Γ) (VR (gx X Γ)) E w (rbind (g (.ref w.S.length :: l) (w.S ++ [some (.ins cn [])])) fun r S' => match r with
      | .d .non => .ok (.ref w.S.length) S'
      | _ => .stuck) Q) : ∀ x dx, H x = none → H dx = none → dx ≠ x → spM (gx X Γ) g (.ref x :: vs) (upd (upd H dx (.own x)) x (.ins C dx [])) (fun v H2 => v = .non ∧ Q (.ref x) H2) E := fun x dx h1 h2 ne => by
  have R1 : Rep (gx X Γ) w (upd H dx (.own x)) := R.ex (Ex.new h2)
  have h1' : upd H dx (.own x) x = none := by rw [upd_ne ne.symm]; exact h1
  have R2 : Rep (gx X Γ) (w.push x (.ins cn [])) (upd (upd H dx (.own x)) x (.ins C dx [])) := R1.alloc h1' (fun _ _ z => by cases z) ⟨dx, [], by rw [upd_same, ← hC], rfl, .nil⟩
  refine ⟨.ref w.S.length :: l, w.push x (.ins cn []), .cons VR.new (r.up Le.push), R2, ?_⟩
  have q' := Pst.later (Le.push (p := x) (c := .ins cn [])) q
  refine q'.bind fun y u H v le R r p => ?_
  split at p
  · next => cases r with | d h => cases h; exact ⟨rfl, p.here R (VR.new.up le)⟩
  · exact p.elim
theorem m_make {cn : Str} (hC : Γ.C cn = C) (M : Mk X.K C f) (F : FnD X.prog X.w X.K X.mg X.base n f fd ps (spM (gx X Γ) g)) (hr : Rm (n + 1) X.A) (hg : Gl X x) (hm : X.mg x = some (.ref C)) (hb : Binds X.K fd ps []) (tk : Takes X W)
    (ha : AM X Γ W (e :: es) fa) (hd : (x == ("__debug__" : Str)) = false := by decide) (he : starEach (e :: es) X.env = (false, eval e X.env) :: starEach es X.env := by rfl) (hpl : (backTo pos (starEach es X.env)).any (·.1) = false := by rfl) :
    PM X Γ W (.Call (.Name x p) (e :: es) [] pos) (eMake cn g fa) := by
  refine ⟨fun pins s σ H Q I ⟨env, w, er, R, q⟩ => ?_⟩
  refine wpAny_Call_Name_kw (ld_glob I hg hm ?_ hd)
  refine PySem.W.callWith_K (h₀ := X.base) I.ok.mod.kin M.kp (thn (ha.run pos pins s σ H _ I ⟨env, w, er, R, q.bind fun l u H vs le R r p => t_make hC R r p⟩) fun us s1 ⟨vs, H1, I1, r, q⟩ => ⟨I1.kIn, ?_⟩) he hpl
  exact run_mkD M F hr hb tk I1 r q
theorem m_make0 {cn : Str} (hC : Γ.C cn = C) (M : Mk X.K C f) (F : FnD X.prog X.w X.K X.mg X.base n f fd ps (spM (gx X Γ) g)) (hr : Rm (n + 1) X.A) (hg : Gl X x) (hm : X.mg x = some (.ref C)) (hb : Binds X.K fd ps []) (tk : Takes X W)
    (hd : (x == ("__debug__" : Str)) = false := by decide) : PM X Γ W (.Call (.Name x p) [] [] pos) (eMake cn g aNil) := by
  refine ⟨fun pins s σ H Q I ⟨env, w, er, R, q⟩ => ?_⟩
  refine wpAny_Call_Name_kw (ld_glob I hg hm ?_ hd)
  exact PySem.W.callWith_K0 I.kIn M.kp (run_mkD (us := []) M F hr hb tk I .nil (t_make hC R .nil q))
end
end Z
set_option Elab.async false
set_option linter.all false
set_option maxRecDepth 100000
set_option maxHeartbeats 4000000
namespace Z
open PySem L2 Evl NdefX LamX
/-! ## what is walked -/
def gd (g : Option Nat) (l : List Val) (S : Store) : Prop := match g with
  | none => True
  | some i => S[i]? = some (some (.lst l))
/-- later, whatever others keep -/
structure Lx (w w' : Wd) : Prop where
  F : Ex w.F w'.F
  n : w.S.length ≤ w'.S.length
  ρ : ∀ i, i < w.S.length → w'.ρ i = w.ρ i
theorem Le.x {w w' : Wd} (h : Le w w') : Lx w w' := ⟨h.F, h.n, h.ρ⟩
theorem Lx.trans {a b c : Wd} (h : Lx a b) (k : Lx b c) : Lx a c := ⟨h.F.trans k.F, Nat.le_trans h.n k.n, fun i hi => (k.ρ i (Nat.lt_of_lt_of_le hi h.n)).trans (h.ρ i hi)⟩
theorem VR.upx {G : Gm} {w w' : Wd} (e : Lx w w') {x : Val} {v : V} (h : VR G w x v) : VR G w' x v := h.up0 e.F e.n e.ρ
theorem VRs.upx {G : Gm} {w w' : Wd} (e : Lx w w') {x : List Val} {v : List V} (h : VRs G w x v) : VRs G w' x v := h.up0 e.F e.n e.ρ
theorem ER.upx {G : Gm} {w w' : Wd} (le : Lx w w') : ∀ {e : Envr} {σ : L2.St}, ER G w e σ → ER G w' e σ
  | _, _, .nil => .nil
  | _, _, .non r => .non (r.upx le)
  | _, _, .som h r => .som (h.upx le) (r.upx le)
structure WalkM (G : Gm) (w : Wd) (J : It) (l : List Val) (g : Option Nat) : Prop where
  goes : ∀ w' H' i, Lx w w' → Rep G w' H' → gd g l w'.S → i < l.length → J.go i H'
  stops : ∀ w' H', Lx w w' → Rep G w' H' → gd g l w'.S → J.stop l.length H'
  gives : ∀ w' H' i v H2, Lx w w' → Rep G w' H' → gd g l w'.S → i < l.length → J.yld i H' v H2 → ∃ w2 y, w2.S = w'.S ∧ Le w' w2 ∧ Rep G w2 H2 ∧ l[i]? = some y ∧ VR G w2 y v
theorem walkM_of {G : Gm} {w : Wd} {J : It} {l : List Val} {g : Option Nat} {n : Nat} {GG : Hp → Prop} {Y : Nat → Hp → V → Hp → Prop} (wk : Walk J n GG Y) (hn : n = l.length)
    (hG : ∀ w' H', Lx w w' → Rep G w' H' → gd g l w'.S → GG H')
    (hY : ∀ w' H' i v H2, Lx w w' → Rep G w' H' → gd g l w'.S → i < l.length → Y i H' v H2 → ∃ w2 y, w2.S = w'.S ∧ Le w' w2 ∧ Rep G w2 H2 ∧ l[i]? = some y ∧ VR G w2 y v) : WalkM G w J l g := by
  subst hn
  exact ⟨fun w' H' i e R g hi => wk.goes i H' hi (hG w' H' e R g), fun w' H' e R g => wk.stops H' (hG w' H' e R g), fun w' H' i v H2 e R g hi y => hY w' H' i v H2 e R g hi (wk.yields i H' v H2 hi (hG w' H' e R g) y)⟩
abbrev IF := Envr → Store → Res (List Val × Option Nat)
def RI (G : Gm) (w : Wd) (x : List Val × Option Nat) (J : It) : Prop := gd x.2 x.1 w.S ∧ WalkM G w J x.1 x.2
def IM (X : Cx) (Γ : Gr) (W : WX) (tg e : Expr) (f : IF) : Prop := PI X tg e (tM (gx X Γ) (RI (gx X Γ)) W f)
/-! ## targets -/
abbrev GF := Val → Envr → Option Envr
def gN (i : Nat) : GF := fun x e => some (e.set i (some x))
def setAll : List Nat → List Val → Envr → Option Envr
  | [], [], e => some e
  | i :: is, x :: xs, e => setAll is xs (e.set i (some x))
  | _, _, _ => none
def gT (is : List Nat) : GF := fun x e => match tupOf x with
  | some l => setAll is l e
  | none => none
theorem wipe_get {σ : L2.St} {k : Nat} : ∀ {vs : List Nat}, (wipe σ vs)[k]? = if k ∈ vs then (if k < σ.length then some none else none) else σ[k]?
  | [] => by simp [wipe]
  | v :: vs => by
    have ih := @wipe_get σ k vs
    unfold wipe
    by_cases h : v = k
    · subst h
      have hm : v ∈ v :: vs := List.mem_cons_self
      rw [if_pos hm]
      by_cases hl : v < (wipe σ vs).length
      · rw [List.getElem?_set_self hl, if_pos (by rwa [wipe_length] at hl)]
      · rw [List.getElem?_eq_none (by simpa using hl), if_neg (by rwa [wipe_length] at hl)]
    · rw [List.getElem?_set_ne h, ih]
      have : (k ∈ v :: vs) ↔ k ∈ vs := by
        rw [List.mem_cons]
        exact ⟨fun z => z.resolve_left fun e => h e.symm, .inr⟩
      simp only [this]
theorem wipe_set {σ : L2.St} {vs : List Nat} {j : Nat} {o : Option V} (h : j ∈ vs) : wipe (σ.set j o) vs = wipe σ vs := by
  apply List.ext_getElem?
  intro k
  rw [wipe_get, wipe_get, List.length_set]
  by_cases q : k ∈ vs
  · rw [if_pos q, if_pos q]
  · rw [if_neg q, if_neg q, List.getElem?_set_ne (fun z => q (by rw [← z]; exact h))]
theorem wipe_wipe {σ : L2.St} {vs : List Nat} : wipe (wipe σ vs) vs = wipe σ vs := by
  apply List.ext_getElem?
  intro k
  rw [wipe_get, wipe_length]
  by_cases q : k ∈ vs
  · rw [if_pos q, wipe_get, if_pos q]
  · rw [if_neg q]
/-- a target: its reading, what it does to the names, the names -/
def TgOk (G : Gm) (g : TG) (f : GF) (js : List Nat) : Prop := ∀ (w : Wd) (H : Hp) (σ : L2.St) (env env' : Envr) (x : Val) (v : V) (Q : L2.St → Hp → Prop), ER G w env σ → Rep G w H → VR G w x v → f x env = some env' →
  (∀ σ', ER G w env' σ' → (∀ vs, (∀ j ∈ js, j ∈ vs) → wipe σ' vs = wipe σ vs) → Q σ' H) → g v σ H Q
section
variable {X : Cx} {Γ : Gr} {W : WX}
theorem tg_name {G : Gm} {i : Nat} : TgOk G (gName i) (gN i) [i] := fun w H σ env env' x v Q er R r e q => by
  cases e
  exact q _ (er.set r i) fun vs h => wipe_set (h i (by simp))
def gNames : List Nat → TGs
  | [] => gNil
  | i :: is => gCons (gName i) (gNames is)
theorem gNames_ok {G : Gm} {w : Wd} {H : Hp} {Q : L2.St → Hp → Prop} : ∀ {js : List Nat} {l : List Val} {vs : List V} {σ : L2.St} {env env' : Envr}, ER G w env σ → VRs G w l vs → setAll js l env = some env' →
    (∀ σ', ER G w env' σ' → (∀ vs, (∀ j ∈ js, j ∈ vs) → wipe σ' vs = wipe σ vs) → Q σ' H) → gNames js vs σ H Q
  | [], _, _, _, _, _, er, .nil, e, q => by cases e; exact ⟨rfl, q _ er fun _ _ => rfl⟩
  | [], _, _, _, _, _, er, .cons _ _, e, q => nomatch e
  | _ :: _, _, _, _, _, _, er, .nil, e, q => nomatch e
  | i :: is, _, _, _, _, _, er, .cons h r, e, q => ⟨_, _, rfl, gNames_ok (er.set h i) r e fun σ' er' hw => q σ' er' fun vs hv => (hw vs fun j hj => hv j (List.mem_cons_of_mem _ hj)).trans (wipe_set (hv i List.mem_cons_self))⟩
theorem tg_tup {is : List Nat} {n : Nat} (hn : is.length = n) : TgOk (gx X Γ) (gTup X.K n (gNames is)) (gT is) is := fun w H σ env env' x v Q er R r e q => by
  unfold gT at e
  split at e
  · next l hl =>
    obtain ⟨a, vs, rfl, h, rs⟩ := r.tupOf hl
    refine ⟨a, vs, rfl, ex_t R.sub' h, ?_, gNames_ok er rs e q⟩
    rw [← rs.len]
    have : ∀ {is : List Nat} {l : List Val} {env env' : Envr}, setAll is l env = some env' → l.length = is.length := by
      intro is
      induction is with
      | nil => intro l env env' h; cases l with | nil => rfl | cons _ _ => exact nomatch h
      | cons i is ih => intro l env env' h; cases l with | nil => exact nomatch h | cons _ _ => exact congrArg (· + 1) (ih h)
    rw [this e, hn]
  · cases e
/-! ## for -/
open Classical in
noncomputable def forL (tg : GF) (body : SF) (g : Option Nat) (l : List Val) : List Val → SF
  | [], e, S => if gd g l S then .nx e S else .stuck
  | x :: r, e, S => if gd g l S then (match tg x e with
    | none => .stuck
    | some e1 => match body e1 S with
      | .nx e2 S2 => forL tg body g l r e2 S2
      | .ct e2 S2 => forL tg body g l r e2 S2
      | .bk e2 S2 => .nx e2 S2
      | .rt x S2 => .rt x S2
      | .exc x e2 S2 => .exc x e2 S2
      | .stuck => .stuck) else .stuck
noncomputable def sFor (it : IF) (tg : GF) (body : SF) : SF := fun e S => sbind e (it e S) fun x S => forL tg body x.2 x.1 x.1 e S
theorem drop_cons {α : Type} {l r : List α} {i : Nat} {x : α} (h : l.drop i = x :: r) : i < l.length ∧ l[i]? = some x ∧ l.drop (i + 1) = r := by
  have hl : i < l.length := by
    by_cases q : i < l.length
    · exact q
    · rw [List.drop_eq_nil_of_le (by omega)] at h; cases h
  rw [List.drop_eq_getElem_cons hl] at h
  simp only [List.cons.injEq] at h
  exact ⟨hl, by rw [List.getElem?_eq_getElem hl, h.1], h.2⟩
theorem ms_for {iter tgt : Expr} {body : List Stmt} {pos : Pos} {g : TG} {js : List Nat} {it : IF} {tg : GF} {fb : SF} (hp : PassesOwn (model X.prog X.w) X.A X.env X.xe) (hc : X.calm = true) (hi : IM X Γ W tgt iter it) (hg : PG X tgt g) (hj : TgOk (gx X Γ) g tg js)
    (hb : SMs X Γ W body fb) (hs : ∀ x, foldedSetIterable iter X.env x = pure x := by intro _; rfl) : SM X Γ W (.For tgt iter body [] pos) (sFor it tg fb) := by
  refine ps_wk (ps_for hp hc hi hg hb hs) fun D σ H ⟨env, w, er, R, p⟩ => ?_
  refine ⟨env, w, er, R, Sst.bind er p fun x u H J le R er ⟨g0, wk⟩ p => ?_⟩
  obtain ⟨l, g⟩ := x
  dsimp only at g0 wk p
  refine ⟨fun i m σ' H' => m = l.length - i ∧ i ≤ l.length ∧ ∃ env' w', Le u w' ∧ ER (gx X Γ) w' env' σ' ∧ Rep (gx X Γ) w' H' ∧ Sst (gx X Γ) W D w' (forL tg fb g l (l.drop i) env' w'.S),
    ⟨_, by simp; rfl, Nat.zero_le _, env, u, Le.refl u, er, R, by simpa using p⟩, ?_⟩
  rintro i m σ1 H1 ⟨rfl, hi, env1, w1, le1, er1, R1, p1⟩
  cases hd : l.drop i with
  | nil =>
    rw [hd] at p1
    have e : i = l.length := by
      have := congrArg List.length hd
      simp at this; omega
    subst e
    unfold forL at p1
    split at p1
    · next gg => exact .inl ⟨wk.stops w1 H1 le1.x R1 gg, p1 w1 H1 σ1 rfl (Le.refl _) R1 er1⟩
    · exact p1.elim
  | cons x r =>
    rw [hd] at p1
    obtain ⟨hlt, hx, hr⟩ := drop_cons hd
    unfold forL at p1
    split at p1
    · next gg =>
      refine .inr ⟨wk.goes w1 H1 i le1.x R1 gg hlt, fun σ2 H2 => ∃ env2 w2, Le u w2 ∧ ER (gx X Γ) w2 env2 σ2 ∧ Rep (gx X Γ) w2 H2 ∧ Sst (gx X Γ) W D w2 (forL tg fb g l r env2 w2.S), fun σ2 H2 ⟨env2, w2, a, b, c, d⟩ => ⟨l.length - (i + 1), by omega, rfl, hlt, env2, w2, a, b, c, by rw [hr]; exact d⟩, fun v H2 hy => ?_⟩
      obtain ⟨w2, y, eS, le2, R2, hy2, ry⟩ := wk.gives w1 H1 i v H2 le1.x R1 gg hlt hy
      rw [hx] at hy2
      cases hy2
      split at p1
      · exact p1.elim
      · next e1 he =>
        refine hj w2 H2 σ1 env1 e1 x v _ (er1.up le2) R2 ry he fun σ3 er3 _ => ⟨e1, w2, er3, R2, ?_⟩
        rw [← eS] at p1
        have p2 := Sst.later le2 p1
        cases hb : fb e1 w2.S with
        | nx e2 S2 =>
          rw [hb] at p2
          intro w3 H3 σ3 es l3 R3 er3
          subst es
          exact ⟨e2, w3, (le1.trans le2).trans l3, er3, R3, Sst.later l3 p2⟩
        | ct e2 S2 =>
          rw [hb] at p2
          intro w3 H3 σ3 es l3 R3 er3
          subst es
          exact ⟨e2, w3, (le1.trans le2).trans l3, er3, R3, Sst.later l3 p2⟩
        | bk e2 S2 => rw [hb] at p2; exact p2
        | rt x S2 => rw [hb] at p2; exact p2
        | exc x e2 S2 => rw [hb] at p2; exact p2
        | stuck => rw [hb] at p2; exact p2
    · exact p1.elim
/-! ## comprehensions -/
def rbindx {α β : Type} (r : Res α) (k : α → Store → Res β) : Res β := match r with
  | .ok x S => k x S
  | _ => .stuck
open Classical in
noncomputable def compL (tg : GF) (tt : BF) (ef : EF) (env : Envr) (g : Option Nat) (l : List Val) : List Val → Store → Res (List Val)
  | [], S => if gd g l S then .ok [] S else .stuck
  | x :: r, S => if gd g l S then (match tg x env with
    | none => .stuck
    | some e1 => rbindx (tt e1 S) fun b S => if b = true then rbindx (ef e1 S) fun y S => rbindx (compL tg tt ef env g l r S) fun ys S => .ok (y :: ys) S else compL tg tt ef env g l r S) else .stuck
theorem Pst.bindx {α β γ δ : Type} {G : Gm} {R1 : Wd → α → β → Prop} {R2 : Wd → γ → δ → Prop} {E E' : XK} {w : Wd} {r : Res α} {k : α → Store → Res γ} {Q : β → Hp → Prop} {Q2 : δ → Hp → Prop} (h : Pst G R2 E w (rbindx r k) Q2)
    (q : ∀ x u H v, Le w u → Rep G u H → R1 u x v → Pst G R2 E u (k x u.S) Q2 → Q v H) : Pst G R1 E' w r Q := by
  cases r with
  | ok x S =>
    intro u H v e l R p
    subst e
    exact q x u H v l R p (Pst.later l h)
  | exc x S => exact h.elim
  | stuck => exact h
/-- the wish where nothing may be raised -/
def W0 : WX := fun _ _ _ _ => False
def tYesF : BF := fun _ S => .ok true S
def TMs (X : Cx) (Γ : Gr) (W : WX) (ifs : List Expr) (f : BF) : Prop := PTs X ifs (tM (gx X Γ) BR W f)
theorem mts_nil : TMs X Γ W [] tYesF := ⟨fun pins s σ H Q I ⟨env, w, er, R, p⟩ => pts_nil.run pins s σ H Q I (p.here R rfl)⟩
theorem mts_one {c : Expr} {t : BF} (h : TM X Γ W c t) : TMs X Γ W [c] t := pts_one h
theorem Rep.unO {G : Gm} {w : Wd} {H : Hp} (R : Rep G w H) {O0 : Hp} (h : Ex O0 w.O) : Rep G { w with O := O0 } H := by
  obtain ⟨κ, R⟩ := R
  have no : ∀ a, w.O a = none → O0 a = none := fun a e => by
    cases q : O0 a with
    | none => rfl
    | some u => have := h _ _ q; rw [e] at this; cases this
  have lx : Lx w { w with O := O0 } := ⟨Ex.refl _, Nat.le_refl _, fun _ _ => rfl⟩
  have cp : ∀ {cl : List (Str × Addr)} {cs : List Addr} {fr : List Str} {l : List Val}, Caps G w H cl cs fr l → Caps G { w with O := O0 } H cl cs fr l := fun r => by
    induction r with
    | nil => exact .nil
    | cons h1 h2 hc h3 _ ih => exact .cons h1 h2 hc (h3.upx lx) ih
  refine ⟨κ, R.sub, R.free, fun i c hc => ?_, R.inj, R.kf, fun a u e => R.os _ _ (h _ _ e), fun a u e => R.of _ _ (h _ _ e), fun i hi => no _ (R.ol i hi), fun i id l hc c hk => no _ (R.ok i id l hc c hk), R.tb, R.xs, R.xn, R.kr, R.kk, R.nt, R.no.of h, R.al⟩
  have q := R.cell i c hc
  cases c with
  | lst l => obtain ⟨vs, h, r⟩ := q; exact ⟨vs, h, r.upx lx⟩
  | dct l => obtain ⟨vs, h, k, r⟩ := q; exact ⟨vs, h, k, r.upx lx⟩
  | ins C l => obtain ⟨d, vs, h, k, r⟩ := q; exact ⟨d, vs, h, k, r.upx lx⟩
  | clo id l => obtain ⟨st, cl, c', g, r⟩ := q; exact ⟨st, cl, c', g, r.at_, r.fn, r.co, r.mem, r.fcl, r.fc, r.inj, cp r.caps⟩
/-- another takes a thing that nobody has -/
theorem Rep.putO {G : Gm} {w : Wd} {H : Hp} {p : Addr} {o : HO} (R : Rep G w H) (h : H p = none) (nt : isTX o = false := by rfl) : Rep G { w with O := upd w.O p o } (upd H p o) := by
  have f := R.noF h
  have R1 := R.ex (Ex.new (o := o) h)
  obtain ⟨κ, R⟩ := R
  have ne : ∀ b u, H b = some u → b ≠ p := fun b u e => ne_of_none e h
  have lx : Lx w { w with O := upd w.O p o } := ⟨Ex.refl _, Nat.le_refl _, fun _ _ => rfl⟩
  have cp : ∀ {cl : List (Str × Addr)} {cs : List Addr} {fr : List Str} {l : List Val}, Caps G w H cl cs fr l → Caps G { w with O := upd w.O p o } (upd H p o) cl cs fr l := fun r => by
    induction r with
    | nil => exact .nil
    | cons h1 h2 hc h3 _ ih => exact .cons h1 (by rw [upd_ne (ne _ _ h2)]; exact h2) hc (h3.upx lx) ih
  have np : ∀ {a u}, H a = some u → upd H p o a = some u := fun h => by rw [upd_ne (ne _ _ h)]; exact h
  refine ⟨κ, fun a u e => ?_, R.free, fun i c hc => ?_, R.inj, R.kf, fun a u e => ?_, fun a u e => ?_, fun i hi => ?_, fun i id l hc c hk => ?_, tabs_ex (Ex.new h) R.tb, R.xs.trans (Ex.new h), R.xn, R.kr, R.kk, R.nt, R.no.upd nt, fun i hi => let ⟨u, hu⟩ := R.al i hi; ⟨u, Ex.new h _ _ hu⟩⟩
  · exact np (R.sub _ _ e)
  · have q := R.cell i c hc
    cases c with
    | lst l => obtain ⟨vs, h, r⟩ := q; exact ⟨vs, np h, r.upx lx⟩
    | dct l => obtain ⟨vs, h, k, r⟩ := q; exact ⟨vs, np h, k, r.upx lx⟩
    | ins C l => obtain ⟨d, vs, h, k, r⟩ := q; exact ⟨d, vs, np h, k, r.upx lx⟩
    | clo id l => obtain ⟨st, cl, c', g, r⟩ := q; exact ⟨st, cl, c', g, ⟨_, np r.at_.choose_spec⟩, r.fn, r.co, r.mem, r.fcl, r.fc, r.inj, cp r.caps⟩
  · have e' : upd w.O p o a = some u := e
    by_cases q : a = p
    · subst q; rw [upd_same] at e' ⊢; exact e'
    · rw [upd_ne q] at e'; exact np (R.os _ _ e')
  · have e' : upd w.O p o a = some u := e
    by_cases q : a = p
    · subst q; exact f
    · rw [upd_ne q] at e'; exact R.of _ _ e'
  · show upd w.O p o _ = none
    obtain ⟨u, hu⟩ := R.al i hi
    rw [upd_ne (ne _ _ hu)]; exact R.ol i hi
  · show upd w.O p o _ = none
    obtain ⟨v, hv, _⟩ := R.kH hc hk
    rw [upd_ne (ne _ _ hv)]; exact R.ok i id l hc c hk
/-- what another kept becomes a cell -/
theorem Rep.adopt {G : Gm} {w : Wd} {H : Hp} {p : Addr} {c : Cell} (R : Rep G w H) (h : ∃ o, H p = some o) (f : w.F p = none) (nO : w.O p = none) (nl : ∀ j, j < w.S.length → w.ρ j ≠ p) (nk : ∀ (κ : Nat → List Addr), RepK G w H κ → ∀ j id l, live w.S j (.clo id l) → ∀ b ∈ κ j, b ≠ p)
    (n : ∀ id l, c ≠ .clo id l) (k : CR G w H [] p c) : Rep G (w.push p c) H := by
  obtain ⟨κ, R⟩ := R
  have nk := nk κ R
  have lp : ∀ {j d}, live (w.push p c).S j d → (j = w.S.length ∧ d = c) ∨ (j < w.S.length ∧ live w.S j d) := fun h => live_push h
  have lt : ∀ {j}, j < w.S.length → (w.push p c).ρ j = w.ρ j := fun h => push_ρ' h
  have ll : ∀ {j}, j < (w.push p c).S.length → j = w.S.length ∨ j < w.S.length := fun {j} h => by
    have h' : j < (w.S ++ [some c]).length := h
    rw [List.length_append, List.length_singleton] at h'
    omega
  have up : Le w (w.push p c) := Le.push
  refine ⟨κ, R.sub, fun j d hj => ?_, fun j d hj => ?_, fun j m hj hm n' => ?_, fun j id l hj => ?_, R.os, R.of, fun j hj => ?_, fun j id l hj => ?_, R.tb, R.xs, R.xn, fun j id l hj b hb m hm => ?_, fun j m id l id' l' hj hm => ?_, R.nt, R.no, fun j hj => ?_⟩
  · rcases lp hj with ⟨rfl, rfl⟩ | ⟨l, q⟩
    · rw [push_ρ]; exact f
    · rw [lt l]; exact R.free j d q
  · rcases lp hj with ⟨rfl, rfl⟩ | ⟨l, q⟩
    · rw [push_ρ]
      exact (k.up up (.of (Ex.refl _)) rfl).nok n
    · rw [lt l]
      exact (R.cell j d q).up up (.of (Ex.refl _)) rfl
  · rcases ll hj with rfl | l <;> rcases ll hm with rfl | l'
    · exact absurd rfl n'
    · rw [push_ρ, lt l']; exact (nl _ l').symm
    · rw [push_ρ, lt l]; exact nl _ l
    · rw [lt l, lt l']; exact R.inj _ _ l l' n'
  · rcases lp hj with ⟨rfl, q⟩ | ⟨l', q⟩
    · exact absurd q.symm (n _ _)
    · exact R.kf j id l q
  · show w.O _ = none
    rcases ll hj with rfl | l
    · rw [push_ρ]; exact nO
    · rw [lt l]; exact R.ol j l
  · rcases lp hj with ⟨rfl, q⟩ | ⟨l', q⟩
    · exact absurd q.symm (n _ _)
    · exact R.ok j id l q
  · rcases lp hj with ⟨rfl, q⟩ | ⟨l', q⟩
    · exact absurd q.symm (n _ _)
    · rcases ll hm with rfl | l2
      · rw [push_ρ]; exact nk j id l q b hb
      · rw [lt l2]; exact R.kr j id l q b hb m l2
  · rcases lp hj with ⟨rfl, q⟩ | ⟨l1, q⟩
    · exact absurd q.symm (n _ _)
    · rcases lp hm with ⟨rfl, q'⟩ | ⟨l2, q'⟩
      · exact absurd q'.symm (n _ _)
      · exact R.kk j m id l id' l' q q'
  · rcases ll hj with rfl | l
    · rw [push_ρ]; exact h
    · rw [lt l]; exact R.al j l
noncomputable def compF (it : IF) (tg : GF) (tt : BF) (ef : EF) (vs : List Nat) : AF := fun e S => rbind (it e S) fun x S => if x.1.length ≤ 100000 then rbindx (compL tg tt ef (wipeE e vs) x.2 x.1 x.1 S) fun l S => .ok l S else .stuck
/-- the end of a comprehension: D the list -/
def RC (G : Gm) (w : Wd) (l : List Val) (v : V) : Prop := True
theorem tLc_ok {σ : L2.St} {H : Hp} {Q : VK} {it : IF} {tg : GF} {tt : BF} {ef : EF} {g : TG} {js vs : List Nat} {k : List Val → Store → Res Val} (hj : TgOk (gx X Γ) g tg js) (hv : ∀ j ∈ js, j ∈ vs)
    (hk : ∀ (w : Wd) (H : Hp) (E : XK) (Q : VK) (l : List Val) (us : List V) (D : Addr) (O0 : Hp), Rep (gx X Γ) w H → w.O = upd O0 D (.lst us) → O0 D = none → VRs (gx X Γ) w l us → Pst (gx X Γ) (VR (gx X Γ)) E { w with O := O0 } (k l w.S) Q → Q (.ref D) H)
    (h : tM (gx X Γ) (VR (gx X Γ)) W (fun e S => rbind (compF it tg tt ef vs e S) k) σ H Q) :
    tLc (tM (gx X Γ) (RI (gx X Γ)) W it) g (tM (gx X Γ) BR W0 tt) (tM (gx X Γ) (VR (gx X Γ)) W0 ef) vs σ H Q := by
  obtain ⟨env, w, er, R, p⟩ := h
  unfold compF at p
  dsimp only at p
  rw [rbind_assoc] at p
  refine ⟨env, w, er, R, p.bind fun x u H J le R ⟨g0, wk⟩ p => ?_⟩
  obtain ⟨l, gg⟩ := x
  dsimp only at g0 wk p
  split at p
  · next hlen =>
    intro D hD
    have er0 : ER (gx X Γ) u (wipeE env vs) (wipe σ vs) := (er.up le).wipe vs
    have nO : u.O D = none := by
      cases q : u.O D with
      | none => rfl
      | some o =>
        obtain ⟨κ, R⟩ := R
        have := R.os _ _ q; rw [hD] at this; cases this
    have nf := R.noF hD
    -- the world at the loop's start
    have R0 : Rep (gx X Γ) { u with O := upd u.O D (.lst []) } (upd H D (.lst [])) := R.putO hD
    generalize hE : (fun (c : Value) (d : Option Addr) (H : Hp) => W c d σ H) = E at p
    let Inv := fun (i : Nat) (H' : Hp) => ∃ w' us acc, Lx u w' ∧ w'.O = upd u.O D (.lst us) ∧ Rep (gx X Γ) w' H' ∧ us.length ≤ i ∧ VRs (gx X Γ) w' acc us ∧
      Pst (gx X Γ) (VR (gx X Γ)) E { w' with O := u.O } (rbind (rbindx (compL tg tt ef (wipeE env vs) gg l (l.drop i) w'.S) fun r S => .ok (acc ++ r) S) k) Q
    refine ⟨fun i m H' => m = l.length - i ∧ i ≤ l.length ∧ Inv i H', ⟨_, rfl, Nat.zero_le _, { u with O := upd u.O D (.lst []) }, [], [], ⟨Ex.refl _, Nat.le_refl _, fun _ _ => rfl⟩, rfl, R0, Nat.le_refl _, .nil, ?_⟩, ?_⟩
    · simpa using p
    rintro i m H1 ⟨rfl, hi, w1, us, acc, lx1, hO1, R1, hu1, racc, p1⟩
    cases hd : l.drop i with
    | nil =>
      rw [hd] at p1
      have e : i = l.length := by
        have := congrArg List.length hd
        simp at this; omega
      subst e
      unfold compL at p1
      split at p1
      · next gg1 =>
        refine .inl ⟨wk.stops w1 H1 lx1 R1 gg1, hk w1 H1 E Q acc us D u.O R1 hO1 nO racc ?_⟩
        simpa [rbind, rbindx] using p1
      · exact p1.elim
    | cons x r =>
      rw [hd] at p1
      obtain ⟨hlt, hx, hr⟩ := drop_cons hd
      unfold compL at p1
      split at p1
      · next gg1 =>
        refine .inr ⟨wk.goes w1 H1 i lx1 R1 gg1 hlt, Inv (i + 1), fun H2 q => ⟨l.length - (i + 1), by omega, rfl, hlt, q⟩, fun v H2 hy => ?_⟩
        obtain ⟨w2, y, eS, le2, R2, hy2, ry⟩ := wk.gives w1 H1 i v H2 lx1 R1 gg1 hlt hy
        rw [hx] at hy2
        cases hy2
        split at p1
        · exact p1.elim
        · next e1 he =>
          have lx2 : Lx u w2 := lx1.trans le2.x
          refine hj w2 H2 _ _ e1 x v _ (er0.upx lx2) R2 ry he fun σ3 er3 hw => ⟨(hw vs hv).trans wipe_wipe, ?_⟩
          have hO2 : w2.O = upd u.O D (.lst us) := le2.O.trans hO1
          -- worlds without D
          have lev : ∀ {a b : Wd}, Le a b → Le { a with O := u.O } { b with O := u.O } := fun z => ⟨z.F, rfl, z.X, z.n, z.ρ⟩
          have p2 := Pst.later (lev le2) p1
          rw [← eS] at p2
          have bx : ∀ {α β : Type} {R1 : Wd → α → β → Prop} {r : Res α} {f : α → Store → Res (List Val)} {w2 : Wd} {Q2 : β → Hp → Prop} {m : List Val → Store → Res Val}, Pst (gx X Γ) (VR (gx X Γ)) E { w2 with O := u.O } (rbind (rbindx (rbindx r f) fun r S => .ok (acc ++ r) S) k) Q →
              (∀ x w3 H3 v, Le w2 w3 → Rep (gx X Γ) w3 H3 → R1 w3 x v → Pst (gx X Γ) (VR (gx X Γ)) E { w3 with O := u.O } (rbind (rbindx (f x w3.S) fun r S => .ok (acc ++ r) S) k) Q → Q2 v H3) → Pst (gx X Γ) R1 (fun c d H => W0 c d σ3 H) w2 r Q2 := fun {α β R1 r f w2 Q2 m} h q => by
            cases r with
            | ok x S =>
              intro w3 H3 v e l3 R3 rr
              subst e
              exact q x w3 H3 v l3 R3 rr (Pst.later (lev l3) h)
            | exc x S => exact h.elim
            | stuck => exact h.elim
          refine ⟨e1, w2, er3, R2, bx (m := k) p2 fun b w3 H3 b' le3 R3 hb p3 => ?_⟩
          cases hb
          have lx3 := lx2.trans le3.x
          have hO3 : w3.O = upd u.O D (.lst us) := le3.O.trans hO2
          have ra3 := (racc.upx le2.x).upx le3.x
          cases b with
          | false =>
            rw [if_neg (by simp)] at p3 ⊢
            exact ⟨w3, us, acc, lx3, hO3, R3, Nat.le_succ_of_le hu1, ra3, by rw [hr]; exact p3⟩
          | true =>
            rw [if_pos rfl] at p3 ⊢
            refine ⟨e1, w3, er3.up le3, R3, bx (m := k) p3 fun z w4 H4 zv le4 R4 rz p4 => ?_⟩
            have hO4 : w4.O = upd u.O D (.lst us) := le4.O.trans hO3
            have hOD : w4.O D = some (.lst us) := by rw [hO4, upd_same]
            have hHD : H4 D = some (.lst us) := by obtain ⟨κ, R4⟩ := R4; exact R4.os _ _ hOD
            refine ⟨us, hHD, sz_lt (by omega), { w4 with O := upd w4.O D (.lst (us ++ [zv])) }, us ++ [zv], acc ++ [z], ?_, ?_, R4.otherW hOD rfl _, by simp; omega, ?_, ?_⟩
            · have := lx3.trans le4.x
              exact ⟨this.F, this.n, this.ρ⟩
            · show upd w4.O D _ = _
              rw [hO4, upd_upd]
            · have l4 : Lx w4 { w4 with O := upd w4.O D (.lst (us ++ [zv])) } := ⟨Ex.refl _, Nat.le_refl _, fun _ _ => rfl⟩
              exact ((ra3.upx le4.x).upx l4).app (.cons (rz.upx l4) .nil)
            · show Pst _ _ _ _ (rbind (rbindx (compL tg tt ef (wipeE env vs) gg l (l.drop (i + 1)) w4.S) _) k) Q
              rw [hr]
              revert p4
              cases hc : compL tg tt ef (wipeE env vs) gg l r w4.S with
              | ok ys S => intro p4; simpa [rbindx, rbind] using p4
              | exc x S => intro p4; exact p4.elim
              | stuck => intro p4; exact p4.elim
      · exact p1.elim
  · exact p.elim
end
end Z
set_option Elab.async false
set_option linter.all false
set_option maxRecDepth 100000
set_option maxHeartbeats 4000000
namespace Z
open PySem L2 Evl NdefX LamX
/-! ## views -/
def kget {κ α : Type} [DecidableEq κ] : List (κ × α) → κ → Option α
  | [], _ => none
  | (a, x) :: r, k => if a = k then some x else kget r k
def kput {κ α : Type} [DecidableEq κ] (l : List (κ × α)) (k : κ) (x : α) : List (κ × α) :=
  if (l.any fun p => decide (p.1 = k)) = true then l.map (fun p => if p.1 = k then (p.1, x) else p) else l ++ [(k, x)]
def kdrop {κ α : Type} [DecidableEq κ] (l : List (κ × α)) (k : κ) : List (κ × α) := l.filter fun p => decide (p.1 ≠ k)
def fput {α : Type} (f : Str) (x : α) : List (Str × α) → List (Str × α)
  | [] => [(f, x)]
  | (g, y) :: r => if g = f then (g, x) :: r else (g, y) :: fput f x r
def lstOf (S : Store) : Val → Option (List Val)
  | .d (.lst l) => some (l.map .d)
  | .ref i => match S[i]? with
    | some (some (.lst l)) => some l
    | _ => none
  | _ => none
def dctOf (S : Store) : Val → Option (List (Key × Val))
  | .d (.dct ks l) => some (ks.zip (l.map .d))
  | .ref i => match S[i]? with
    | some (some (.dct l)) => some l
    | _ => none
  | _ => none
def insOf (S : Store) : Val → Option (Str × List (Str × Val))
  | .d (.obj c ns l) => some (c, ns.zip (l.map .d))
  | .ref i => match S[i]? with
    | some (some (.ins c l)) => some (c, l)
    | _ => none
  | _ => none
def keyOf : Val → Option Key
  | .d (.int i) => some (.inl i)
  | .d (.str s) => some (.inr s)
  | _ => none
section
variable {G : Gm} {w : Wd} {H : Hp} {x : Val} {v : V}
/-- pairs by pairs -/
structure PR {κ : Type} (G : Gm) (w : Wd) (l : List (κ × Val)) (us : List (κ × V)) : Prop where
  k : us.map (·.1) = l.map (·.1)
  v : VRs G w (l.map (·.2)) (us.map (·.2))
theorem PR.cons_inv {κ : Type} {l : List (κ × Val)} {us : List (κ × V)} (h : PR G w l us) : (l = [] ∧ us = []) ∨ ∃ a x u l' us', l = (a, x) :: l' ∧ us = (a, u) :: us' ∧ VR G w x u ∧ PR G w l' us' := by
  obtain ⟨k, v⟩ := h
  cases l with
  | nil => cases us with
    | nil => exact .inl ⟨rfl, rfl⟩
    | cons _ _ => simp at k
  | cons p l => cases us with
    | nil => simp at k
    | cons q us =>
      obtain ⟨a, x⟩ := p
      obtain ⟨b, u⟩ := q
      simp only [List.map_cons, List.cons.injEq] at k
      obtain ⟨rfl, k⟩ := k
      cases v with
      | cons h1 h2 => exact .inr ⟨b, x, u, l, us, rfl, rfl, h1, k, h2⟩
theorem PR.cons {κ : Type} {a : κ} {x : Val} {u : V} {l : List (κ × Val)} {us : List (κ × V)} (h : VR G w x u) (r : PR G w l us) : PR G w ((a, x) :: l) ((a, u) :: us) := ⟨by simp [r.k], .cons h r.v⟩
theorem PR.nil {κ : Type} : PR G w ([] : List (κ × Val)) [] := ⟨rfl, .nil⟩
theorem PR.up {κ : Type} {w' : Wd} {l : List (κ × Val)} {us : List (κ × V)} (h : PR G w l us) (e : Le w w') : PR G w' l us := ⟨h.k, h.v.up e⟩
theorem PR.ind {κ : Type} {P : List (κ × Val) → List (κ × V) → Prop} (h0 : P [] []) (h1 : ∀ a x u l us, VR G w x u → PR G w l us → P l us → P ((a, x) :: l) ((a, u) :: us)) : ∀ {l : List (κ × Val)} {us : List (κ × V)}, PR G w l us → P l us
  | [], us, h => by
    rcases h.cons_inv with ⟨_, rfl⟩ | ⟨_, _, _, _, _, e, _⟩
    · exact h0
    · cases e
  | p :: l, us, h => by
    rcases h.cons_inv with ⟨e, _⟩ | ⟨a, x, u, l', us', e, rfl, hv, r⟩
    · cases e
    · cases e
      exact h1 _ _ _ _ _ hv r (PR.ind h0 h1 r)
theorem PR.len {κ : Type} {l : List (κ × Val)} {us : List (κ × V)} (h : PR G w l us) : l.length = us.length := by have := congrArg List.length h.k; simpa using this.symm
theorem PR.any {κ : Type} [DecidableEq κ] {l : List (κ × Val)} {us : List (κ × V)} (h : PR G w l us) (k : κ) : (us.any fun p => decide (p.1 = k)) = (l.any fun p => decide (p.1 = k)) :=
  h.ind (P := fun l us => (us.any fun p => decide (p.1 = k)) = (l.any fun p => decide (p.1 = k))) rfl fun a x u l us _ _ ih => by simp only [List.any_cons, ih]
theorem PR.get {κ : Type} [DecidableEq κ] {l : List (κ × Val)} {us : List (κ × V)} (h : PR G w l us) (k : κ) : (kget l k = none ∧ valV us k = none) ∨ ∃ x u, kget l k = some x ∧ valV us k = some u ∧ VR G w x u :=
  h.ind (P := fun l us => (kget l k = none ∧ valV us k = none) ∨ ∃ x u, kget l k = some x ∧ valV us k = some u ∧ VR G w x u) (.inl ⟨rfl, rfl⟩) fun a x u l us hv _ ih => by
    by_cases e : a = k
    · exact .inr ⟨x, u, by rw [kget, if_pos e], valV_pos e, hv⟩
    · rw [kget, if_neg e, valV_neg e]; exact ih
theorem PR.put {κ : Type} [DecidableEq κ] {l : List (κ × Val)} {us : List (κ × V)} (h : PR G w l us) (k : κ) {x : Val} {u : V} (hx : VR G w x u) : PR G w (kput l k x) (putK us k u) := by
  unfold kput putK
  rw [h.any k]
  split
  · exact h.ind (P := fun l us => PR G w (l.map fun p => if p.1 = k then (p.1, x) else p) (us.map fun p => if p.1 = k then (p.1, u) else p)) .nil fun a y z l us hv _ ih => by
      simp only [List.map_cons]
      by_cases e : a = k
      · rw [if_pos e, if_pos e]; exact .cons hx ih
      · rw [if_neg e, if_neg e]; exact .cons hv ih
  · exact h.ind (P := fun l us => PR G w (l ++ [(k, x)]) (us ++ [(k, u)])) (.cons hx .nil) fun a y z l us hv _ ih => .cons hv ih
theorem PR.drop {κ : Type} [DecidableEq κ] {l : List (κ × Val)} {us : List (κ × V)} (h : PR G w l us) (k : κ) : PR G w (kdrop l k) (dropK us k) := by
  unfold kdrop dropK
  exact h.ind (P := fun l us => PR G w (l.filter fun p => decide (p.1 ≠ k)) (us.filter fun p => decide (p.1 ≠ k))) .nil fun a y z l us hv _ ih => by
    by_cases e : a = k
    · rw [List.filter_cons, List.filter_cons, if_neg (by simp [e]), if_neg (by simp [e])]; exact ih
    · rw [List.filter_cons, List.filter_cons, if_pos (by simp [e]), if_pos (by simp [e])]; exact .cons hv ih
theorem PR.look {l : List (Str × Val)} {us : List (Str × V)} (h : PR G w l us) (f : Str) : (l.lookup f = none ∧ us.lookup f = none) ∨ ∃ x u, l.lookup f = some x ∧ us.lookup f = some u ∧ VR G w x u :=
  h.ind (P := fun l us => (l.lookup f = none ∧ us.lookup f = none) ∨ ∃ x u, l.lookup f = some x ∧ us.lookup f = some u ∧ VR G w x u) (.inl ⟨rfl, rfl⟩) fun a x u l us hv _ ih => by
    simp only [List.lookup_cons]
    cases f == a with
    | true => exact .inr ⟨x, u, rfl, rfl, hv⟩
    | false => exact ih
theorem PR.putF {l : List (Str × Val)} {us : List (Str × V)} (h : PR G w l us) (f : Str) {x : Val} {u : V} (hx : VR G w x u) : PR G w (fput f x l) (putF f u us) :=
  h.ind (P := fun l us => PR G w (fput f x l) (L2.putF f u us)) (.cons hx .nil) fun a y z l us hv hr ih => by
    unfold fput L2.putF
    by_cases e : a = f
    · rw [if_pos e, if_pos e]; exact .cons hx hr
    · rw [if_neg e, if_neg e]; exact .cons hv ih
theorem PR.of_d {κ : Type} {ks : List κ} {l : List Dat} {us : List (κ × V)} (k : us.map (·.1) = ks) (h : DRs G w.F l (us.map (·.2))) : PR G w (ks.zip (l.map .d)) us := by
  subst k
  have hl : (us.map (·.1)).length = (l.map Val.d).length := by
    have := h.len
    simp at this ⊢; exact this.symm
  refine ⟨?_, ?_⟩
  · rw [List.map_fst_zip (Nat.le_of_eq hl)]
  · rw [List.map_snd_zip (Nat.le_of_eq hl.symm)]
    exact h.vrs
theorem lstOf_ok {l : List Val} (R : Rep G w H) (r : VR G w x v) (e : lstOf w.S x = some l) : ∃ a us, v = .ref a ∧ H a = some (.lst us) ∧ VRs G w l us := by
  unfold lstOf at e
  split at e
  · next m => cases e; cases r with | d h => cases h with | lst h r => exact ⟨_, _, rfl, R.sub' _ _ h, r.vrs⟩
  · next i =>
    split at e
    · next m q =>
      cases e
      cases r
      obtain ⟨κ, R⟩ := R
      obtain ⟨vs, h, r⟩ := R.cell i _ q
      exact ⟨_, vs, rfl, h, r⟩
    · cases e
  · cases e
theorem dctOf_ok {l : List (Key × Val)} (R : Rep G w H) (r : VR G w x v) (e : dctOf w.S x = some l) : ∃ a us, v = .ref a ∧ H a = some (.dK us) ∧ PR G w l us := by
  unfold dctOf at e
  split at e
  · next ks m => cases e; cases r with | d h => cases h with | dct h k r => exact ⟨_, _, rfl, R.sub' _ _ h, .of_d k r⟩
  · next i =>
    split at e
    · next m q =>
      cases e
      cases r
      obtain ⟨κ, R⟩ := R
      obtain ⟨vs, h, k, r⟩ := R.cell i _ q
      exact ⟨_, vs, rfl, h, k, r⟩
    · cases e
  · cases e
theorem insOf_ok {c : Str} {l : List (Str × Val)} (R : Rep G w H) (r : VR G w x v) (e : insOf w.S x = some (c, l)) : ∃ a dx us, v = .ref a ∧ H a = some (.ins (G.C c) dx us) ∧ PR G w l us := by
  unfold insOf at e
  split at e
  · next c' ns m => cases e; cases r with | d h => cases h with | obj h k r => exact ⟨_, _, _, rfl, R.sub' _ _ h, .of_d k r⟩
  · next i =>
    split at e
    · next c' m q =>
      cases e
      cases r
      obtain ⟨κ, R⟩ := R
      obtain ⟨dx, vs, h, k, r⟩ := R.cell i _ q
      exact ⟨_, dx, vs, rfl, h, k, r⟩
    · cases e
  · cases e
theorem keyOf_ok {k : Key} (r : VR G w x v) (e : keyOf x = some k) : v = kV k := by
  unfold keyOf at e
  split at e
  · cases e; cases r with | d h => cases h; rfl
  · cases e; cases r with | d h => cases h; rfl
  · cases e
theorem tupOf_ok {l : List Val} (R : Rep G w H) (r : VR G w x v) (e : tupOf x = some l) : ∃ a us, v = .ref a ∧ SqT G.K H a us ∧ VRs G w l us := by
  obtain ⟨a, us, e, h, r⟩ := r.tupOf e
  exact ⟨a, us, e, ex_t R.sub' h, r⟩
end
/-! ## new lists -/
def newF (l : List Val) (S : Store) : Res Val := match dats l with
  | some m => .ok (.d (.lst m)) S
  | none => .stuck
def newL (l : List Val) (S : Store) : Res Val := .ok (.ref S.length) (S ++ [some (.lst l)])
section
variable {G : Gm} {w : Wd} {H : Hp} {E : XK} {Q : VK} {l : List Val} {us : List V}
theorem newF_ok (R : Rep G w H) (r : VRs G w l us) (p : Pst G (VR G) E w (newF l w.S) Q) : ∀ a, H a = none → Q (.ref a) (upd H a (.lst us)) := fun a ha => by
  unfold newF at p
  split at p
  · next m q =>
    have le : Le w (w.add a (.lst us)) := Le.add (R.noF ha)
    exact p (w.add a (.lst us)) _ _ rfl le (R.new ha) (.d (.lst upd_same ((r.dats q).up le.F)))
  · exact p.elim
theorem newL_ok (R : Rep G w H) (r : VRs G w l us) (p : Pst G (VR G) E w (newL l w.S) Q) : ∀ a, H a = none → Q (.ref a) (upd H a (.lst us)) := fun a ha =>
  p (w.push a (.lst l)) _ _ rfl Le.push (R.newL ha r) VR.new
end
abbrev NewR := ∀ {G : Gm} {w : Wd} {H : Hp} {E : XK} {Q : VK} {l : List Val} {us : List V}, Rep G w H → VRs G w l us → True
/-- how a new list is kept: as a datum, or as a cell -/
def mkL (live : Bool) (l : List Val) (S : Store) : Res Val := if live = true then newL l S else newF l S
theorem mkL_ok {G : Gm} {w : Wd} {H : Hp} {E : XK} {Q : VK} {l : List Val} {us : List V} {b : Bool} (R : Rep G w H) (r : VRs G w l us) (p : Pst G (VR G) E w (mkL b l w.S) Q) : ∀ a, H a = none → Q (.ref a) (upd H a (.lst us)) := by
  cases b with
  | true => exact newL_ok R r p
  | false => exact newF_ok R r p
/-! ## operators -/
theorem OpR.or {X : Cx} {f : Value → Value → Sem Value} {r r' : R2} (h : OpR X f r) (h' : OpR X f r') : OpR X f (fun x y H Q => r x y H Q ∨ r' x y H Q) := by
  intro pins s σ H x y v u Q I rx ry q
  rcases q with q | q
  · exact h pins s σ H x y v u Q I rx ry q
  · exact h' pins s σ H x y v u Q I rx ry q
def okd (x : Dat) (S : Store) : Res Val := .ok (.d x) S
section
variable {X : Cx} {Γ : Gr} {W : WX}
theorem okd_here {G : Gm} {E : XK} {w : Wd} {H : Hp} {x : Dat} {v : V} {Q : VK} (R : Rep G w H) (h : DR G w.F x v) (p : Pst G (VR G) E w (okd x w.S) Q) : Q v H := p.here R (.d h)
def gAdd (live : Bool) (x y : Val) (S : Store) : Res Val := match x, y with
  | .d (.int i), .d (.int j) => okd (.int (i + j)) S
  | .d (.str s), .d (.str t) => if s.length + t.length ≤ 100000 then okd (.str (s ++ t)) S else .stuck
  | x, y => match tupOf x, tupOf y with
    | some l, some m => if l.length + m.length ≤ 100000 then .ok (mkTup (l ++ m)) S else .stuck
    | _, _ => match lstOf S x, lstOf S y with
      | some l, some m => if l.length + m.length ≤ 100000 then mkL live (l ++ m) S else .stuck
      | _, _ => .stuck
theorem gAdd_ok {b : Bool} : OpM Γ X (fun x y H Q => (rI0 fun i j => .int (i + j)) x y H Q ∨ (∃ i j, x = .str i ∧ y = .str j ∧ i.length + j.length ≤ sizeLine ∧ Q (.str (i ++ j)) H) ∨ rCatA X.K x y H Q ∨ rCat x y H Q) (gAdd b) := by
  intro w H x y v u E Q R rx ry p
  unfold gAdd at p
  split at p
  · next i j =>
    cases rx with | d h => cases ry with | d k => cases h; cases k; exact .inl ⟨i, j, rfl, rfl, okd_here R (.int _) p⟩
  · next s t =>
    split at p
    · next hl => cases rx with | d h => cases ry with | d k => cases h; cases k; exact .inr (.inl ⟨s, t, rfl, rfl, sz_of hl, okd_here R (.str _) p⟩)
    · exact p.elim
  · split at p
    · next l m h1 h2 =>
      split at p
      · next hl =>
        obtain ⟨a, us, rfl, ha, ru⟩ := tupOf_ok R rx h1
        obtain ⟨c, vs, rfl, hc, rv⟩ := tupOf_ok R ry h2
        obtain ⟨_, _, e1, f1, g1⟩ := rx.tupOf h1
        obtain ⟨_, _, e2, f2, g2⟩ := ry.tupOf h2
        refine .inr (.inr (.inl ⟨a, c, us, vs, rfl, rfl, ha, hc, sz_of (by rw [← ru.len, ← rv.len]; exact hl), fun hx => ?_, fun hx hy => ?_, fun hx hy q hq => ?_⟩))
        · subst hx
          have : l = [] := by cases ru; rfl
          subst this
          cases e2
          exact p.here R (VR.mkTup f2 (by simpa using g2))
        · subst hy
          have : m = [] := by cases rv; rfl
          subst this
          cases e1
          exact p.here R (VR.mkTup f1 (by simpa using g1))
        · exact p (w.add q (.tup (us ++ vs))) _ _ rfl (Le.add (R.noF hq)) (R.new hq) (VR.mkTup (st_of upd_same) ((ru.app rv).up (Le.add (R.noF hq))))
      · exact p.elim
    · split at p
      · next l m h1 h2 =>
        split at p
        · next hl =>
          obtain ⟨a, us, rfl, ha, ru⟩ := lstOf_ok R rx h1
          obtain ⟨c, vs, rfl, hc, rv⟩ := lstOf_ok R ry h2
          exact .inr (.inr (.inr ⟨a, c, us, vs, rfl, rfl, ha, hc, sz_of (by rw [← ru.len, ← rv.len]; exact hl), mkL_ok R (ru.app rv) p⟩))
        · exact p.elim
      · exact p.elim
theorem m_add {b : Bool} {e1 e2' : Expr} {pos : Pos} {f1 f2 : EF} (h1 : PM X Γ W e1 f1) (h2 : PM X Γ W e2' f2) : PM X Γ W (.BinOp e1 .Add e2' pos) (e2 (gAdd b) f1 f2) :=
  m_op (OpR.or op_add (OpR.or op_add_str (OpR.or op_catA op_cat))) gAdd_ok h1 h2
def gSub' (x y : Val) (S : Store) : Res Val := match x, y with
  | .d (.int i), .d (.int j) => okd (.int (i - j)) S
  | _, _ => .stuck
theorem m_sub {e1 e2' : Expr} {pos : Pos} {f1 f2 : EF} (h1 : PM X Γ W e1 f1) (h2 : PM X Γ W e2' f2) : PM X Γ W (.BinOp e1 .Sub e2' pos) (e2 gSub' f1 f2) :=
  m_op op_sub (fun w H x y v u E Q R rx ry p => by
    unfold gSub' at p
    split at p
    · next i j => cases rx with | d h => cases ry with | d k => cases h; cases k; exact ⟨i, j, rfl, rfl, okd_here R (.int _) p⟩
    · exact p.elim) h1 h2
instance : Decidable (CMul i j) := by unfold CMul; infer_instance
instance : Decidable (CDiv i j) := by unfold CDiv; infer_instance
instance : Decidable (CPow i j) := by unfold CPow; infer_instance
def gMul (live : Bool) (x y : Val) (S : Store) : Res Val := match x, y with
  | .d (.int i), .d (.int j) => if CMul i j then okd (.int (i * j)) S else .stuck
  | .d (.str s), .d (.int j) => .stuck
  | x, .d (.int j) => match lstOf S x with
    | some l => if -1000000 ≤ j ∧ j ≤ 1000000 ∧ l.length * j.toNat ≤ 100000 then mkL live (List.replicate j.toNat l).flatten S else .stuck
    | none => match tupOf x with
      | some l => if 2 ≤ j ∧ j ≤ 1000 ∧ l.length ≤ 1000 ∧ l ≠ [] then .ok (mkTup (List.replicate j.toNat l).flatten) S else .stuck
      | none => .stuck
  | _, _ => .stuck
theorem VRs.rep {G : Gm} {w : Wd} {l : List Val} {us : List V} (h : VRs G w l us) : ∀ n : Nat, VRs G w (List.replicate n l).flatten (List.replicate n us).flatten
  | 0 => .nil
  | n + 1 => by rw [List.replicate_succ, List.replicate_succ, List.flatten_cons, List.flatten_cons]; exact h.app (VRs.rep h n)
theorem gMul_ok {b : Bool} : OpM Γ X (fun x y H Q => (rI CMul fun i j => .int (i * j)) x y H Q ∨ rRep x y H Q ∨ rRepT X.K x y H Q) (gMul b) := by
  intro w H x y v u E Q R rx ry p
  unfold gMul at p
  split at p
  · next i j =>
    split at p
    · next hc => cases rx with | d h => cases ry with | d k => cases h; cases k; exact .inl ⟨i, j, rfl, rfl, hc, okd_here R (.int _) p⟩
    · exact p.elim
  · exact p.elim
  · next j _ _ =>
    cases ry with | d k => ?_
    cases k
    split at p
    · next l h1 =>
      split at p
      · next hc =>
        obtain ⟨a, us, rfl, ha, ru⟩ := lstOf_ok R rx h1
        refine .inr (.inl ⟨a, j, us, rfl, rfl, ha, by omega, by omega, sz_of (by rw [← ru.len]; exact hc.2.2), mkL_ok R (ru.rep _) p⟩)
      · exact p.elim
    · split at p
      · next l h1 =>
        split at p
        · next hc =>
          obtain ⟨a, us, rfl, ha, ru⟩ := tupOf_ok R rx h1
          refine .inr (.inr ⟨a, j, us, rfl, rfl, ha, ?_, hc.1, hc.2.1, by rw [← ru.len]; exact hc.2.2.1, fun q hq => ?_⟩)
          · rintro rfl; cases ru; exact hc.2.2.2 rfl
          · exact p (w.add q (.tup _)) _ _ rfl (Le.add (R.noF hq)) (R.new hq) (VR.mkTup (st_of upd_same) ((ru.rep _).up (Le.add (R.noF hq))))
        · exact p.elim
      · exact p.elim
  · exact p.elim
end
end Z
set_option Elab.async false
set_option linter.all false
set_option maxRecDepth 100000
set_option maxHeartbeats 4000000
namespace Z
open PySem L2 Evl NdefX LamX
/-! ## data that are compared -/
mutual
def pd : Dat → Option PyData
  | .non => some .none
  | .bl b => some (.bool b)
  | .int i => some (.int i)
  | .str s => some (.str s)
  | .tup l => (pds l).map .tuple
  | .lst l => (pds l).map .list
  | _ => none
def pds : List Dat → Option (List PyData)
  | [] => some []
  | x :: r => match pd x with
    | some d => (pds r).map (d :: ·)
    | none => none
end
mutual
theorem pd_ok {G : Gm} {F : Hp} : ∀ {x : Dat} {v : V} {d : PyData}, DR G F x v → pd x = some d → Dp G.K F v d
  | .non, _, _, .non, e => by cases e; exact .non
  | .bl b, _, _, .bl _, e => by cases e; exact .bl b
  | .int i, _, _, .int _, e => by cases e; exact .int i
  | .str s, _, _, .str _, e => by cases e; exact .str s
  | .tup l, _, _, .tup h r, e => by
    rw [pd] at e
    cases q : pds l with
    | none => rw [q] at e; cases e
    | some m => rw [q] at e; cases e; exact .tup h (pds_ok r q)
  | .lst l, _, _, .lst h r, e => by
    rw [pd] at e
    cases q : pds l with
    | none => rw [q] at e; cases e
    | some m => rw [q] at e; cases e; exact .lst (sq_of h) (pds_ok r q)
  | .dct _ _, _, _, _, e => by simp [pd] at e
  | .obj _ _ _, _, _, _, e => by simp [pd] at e
  | .scr _, _, _, _, e => by simp [pd] at e
theorem pds_ok {G : Gm} {F : Hp} : ∀ {l : List Dat} {vs : List V} {ds : List PyData}, DRs G F l vs → pds l = some ds → DpAll G.K F vs ds
  | [], _, _, .nil, e => by cases e; exact .nil
  | x :: r, _, _, .cons h t, e => by
    rw [pds] at e
    cases q : pd x with
    | none => rw [q] at e; cases e
    | some d =>
      rw [q] at e
      cases q2 : pds r with
      | none => simp [q2] at e
      | some m => simp [q2] at e; subst e; exact .cons (pd_ok h q) (pds_ok t q2)
end
mutual
theorem dp_ex {K : PySem.W.Frag} {H H' : Hp} (e : Ex H H') : ∀ {d : PyData} {v : V}, Dp K H v d → Dp K H' v d
  | _, _, .non => .non
  | _, _, .bl b => .bl b
  | _, _, .int i => .int i
  | _, _, .str x => .str x
  | _, _, .lst h hs => .lst (ex_l e h) (dps_ex e hs)
  | _, _, .tup h hs => .tup (ex_t e h) (dps_ex e hs)
theorem dps_ex {K : PySem.W.Frag} {H H' : Hp} (e : Ex H H') : ∀ {ds : List PyData} {vs : List V}, DpAll K H vs ds → DpAll K H' vs ds
  | _, _, .nil => .nil
  | _, _, .cons h hs => .cons (dp_ex e h) (dps_ex e hs)
end
def pdV (S : Store) : Val → Option PyData
  | .d x => pd x
  | .ref i => match S[i]? with
    | some (some (.lst l)) => match dats l with
      | some m => (pds m).map .list
      | none => none
    | _ => none
  | .tup _ => none
theorem pdV_ok {G : Gm} {w : Wd} {H : Hp} {x : Val} {v : V} {d : PyData} (R : Rep G w H) (r : VR G w x v) (e : pdV w.S x = some d) : Dp G.K H v d := by
  unfold pdV at e
  split at e
  · cases r with | d h => exact dp_ex R.sub' (pd_ok h e)
  · next i =>
    split at e
    · next l q =>
      split at e
      · next m qm =>
        cases r
        obtain ⟨κ, R⟩ := R
        obtain ⟨vs, h, r⟩ := R.cell i _ q
        cases qp : pds m with
        | none => rw [qp] at e; cases e
        | some ds => rw [qp] at e; cases e; exact .lst (sq_of h) (dps_ex R.sub (pds_ok (r.dats qm) qp))
      · cases e
    · cases e
  · cases e
def eqD (S : Store) (x y : Val) : Option Bool := match x, y with
  | .d (.int i), .d (.int j) => some (decide (i = j))
  | .d (.str i), .d (.str j) => some (decide (i = j))
  | .d (.bl i), .d (.bl j) => some (decide (i = j))
  | .d .non, .d .non => some true
  | .d .non, .d (.int _) => some false
  | .d (.int _), .d .non => some false
  | .d .non, .d (.str _) => some false
  | .d (.str _), .d .non => some false
  | .d (.int _), .d (.str _) => some false
  | .d (.str _), .d (.int _) => some false
  | x, y => match pdV S x, pdV S y with
    | some a, some b => if SeqAt.shaped a = true ∧ SeqAt.shaped b = true then some (PyData.eqv a b) else none
    | _, _ => none
def gEq (x y : Val) (S : Store) : Res Val := match eqD S x y with
  | some b => okd (.bl b) S
  | none => .stuck
def gNe (x y : Val) (S : Store) : Res Val := match eqD S x y with
  | some b => okd (.bl (!b)) S
  | none => .stuck
section
variable {X : Cx} {Γ : Gr} {W : WX}
theorem eqD_ok {w : Wd} {H : Hp} {x y : Val} {v u : V} {b : Bool} (R : Rep (gx X Γ) w H) (rx : VR (gx X Γ) w x v) (ry : VR (gx X Γ) w y u) (e : eqD w.S x y = some b) :
    (scal v u = true ∧ decide (v = u) = b) ∨ ∃ d e, Dp X.K H v d ∧ Dp X.K H u e ∧ SeqAt.shaped d = true ∧ SeqAt.shaped e = true ∧ PyData.eqv d e = b := by
  unfold eqD at e
  split at e
  case h_11 =>
    split at e
    · next a b h1 h2 =>
      split at e
      · next hs => cases e; exact .inr ⟨a, b, pdV_ok R rx h1, pdV_ok R ry h2, hs.1, hs.2, rfl⟩
      · cases e
    · cases e
  all_goals
    (cases rx with | d h => ?_)
    (cases ry with | d k => ?_)
    cases h
    cases k
    cases e
    refine .inl ⟨rfl, ?_⟩
    simp
theorem gEq_ok : OpM Γ X (fun x y H Q => rEq x y H Q ∨ rEqD X.K x y H Q) gEq := by
  intro w H x y v u E Q R rx ry p
  unfold gEq at p
  split at p
  · next b h =>
    rcases eqD_ok R rx ry h with ⟨h1, h2⟩ | ⟨d, e, h1, h2, h3, h4, h5⟩
    · exact .inl ⟨h1, by rw [h2]; exact okd_here R (.bl b) p⟩
    · exact .inr ⟨d, e, h1, h2, h3, h4, by rw [h5]; exact okd_here R (.bl b) p⟩
  · exact p.elim
theorem gNe_ok : OpM Γ X (fun x y H Q => rNe x y H Q ∨ rNeD X.K x y H Q) gNe := by
  intro w H x y v u E Q R rx ry p
  unfold gNe at p
  split at p
  · next b h =>
    rcases eqD_ok R rx ry h with ⟨h1, h2⟩ | ⟨d, e, h1, h2, h3, h4, h5⟩
    · exact .inl ⟨h1, by rw [h2]; exact okd_here R (.bl _) p⟩
    · exact .inr ⟨d, e, h1, h2, h3, h4, by rw [h5]; exact okd_here R (.bl _) p⟩
  · exact p.elim
/-- comparisons: their rules -/
structure CmpM (Γ : Gr) (X : Cx) (op : CmpOp) (g : Val → Val → Store → Res Val) : Prop where
  ex : ∃ r, OpR X (compareOp op) r ∧ OpM Γ X r g
theorem m_cmpG {op : CmpOp} {g : Val → Val → Store → Res Val} {a b : Expr} {pos : Pos} {f1 f2 : EF} (c : CmpM Γ X op g) (h1 : PM X Γ W a f1) (h2 : PM X Γ W b f2) (hm : behindInMarks op b = false) : PM X Γ W (.Compare a [op] [b] pos) (e2 g f1 f2) := by
  obtain ⟨r, ho, hg⟩ := c.ex
  exact m_cmp ho hg h1 h2 hm
theorem tm_cmpG {op : CmpOp} {g : Val → Val → Store → Res Val} {a b : Expr} {pos : Pos} {f1 f2 : EF} (c : CmpM Γ X op g) (h1 : PM X Γ W a f1) (h2 : PM X Γ W b f2) (hm : behindInMarks op b = false) : TM X Γ W (.Compare a [op] [b] pos) (bVal (e2 g f1 f2)) := by
  obtain ⟨r, ho, hg⟩ := c.ex
  exact tm_cmp ho hg h1 h2 hm
theorem c_eq (hu : X.A.units + 64 < cLine) : CmpM Γ X .Eq gEq := ⟨_, OpR.or op_eq (op_eqD hu), gEq_ok⟩
theorem c_ne (hu : X.A.units + 64 < cLine) : CmpM Γ X .NotEq gNe := ⟨_, OpR.or op_ne (op_neD hu), gNe_ok⟩
def gInt (p : Int → Int → Bool) (x y : Val) (S : Store) : Res Val := match x, y with
  | .d (.int i), .d (.int j) => okd (.bl (p i j)) S
  | _, _ => .stuck
theorem gInt_ok {p : Int → Int → Bool} : OpM Γ X (rI0 fun i j => .bl (p i j)) (gInt p) := fun w H x y v u E Q R rx ry q => by
  unfold gInt at q
  split at q
  · next i j => cases rx with | d h => cases ry with | d k => cases h; cases k; exact ⟨i, j, rfl, rfl, okd_here R (.bl _) q⟩
  · exact q.elim
abbrev gLt := gInt fun i j => decide (i < j)
abbrev gLe' := gInt fun i j => decide (i ≤ j)
abbrev gGt := gInt fun i j => decide (j < i)
abbrev gGe := gInt fun i j => decide (j ≤ i)
theorem c_lt : CmpM Γ X .Lt gLt := ⟨_, op_lt, gInt_ok⟩
theorem c_le : CmpM Γ X .LtE gLe' := ⟨_, op_le, gInt_ok⟩
theorem c_gt : CmpM Γ X .Gt gGt := ⟨_, op_gt, gInt_ok⟩
theorem c_ge : CmpM Γ X .GtE gGe := ⟨_, op_ge, gInt_ok⟩
/-- <= of texts -/
def leS (s r : Str) : Bool := !decide (r.cps.toList < s.cps.toList)
def gLeS (x y : Val) (S : Store) : Res Val := match x, y with
  | .d (.str i), .d (.str j) => okd (.bl (leS i j)) S
  | _, _ => .stuck
theorem c_leS : CmpM Γ X .LtE gLeS := ⟨_, op_le_str, fun w H x y v u E Q R rx ry q => by
  unfold gLeS at q
  split at q
  · next i j => cases rx with | d h => cases ry with | d k => cases h; cases k; exact ⟨i, j, rfl, rfl, okd_here R (.bl _) q⟩
  · exact q.elim⟩
/-- is None -/
def isNon : Val → Bool
  | .d .non => true
  | _ => false
def gIs (n : Bool) (x y : Val) (S : Store) : Res Val := match x, y with
  | x, .d .non => okd (.bl (if n then !isNon x else isNon x)) S
  | .d (.bl a), .d (.bl b) => okd (.bl (if n then !decide (a = b) else decide (a = b))) S
  | _, _ => .stuck
theorem isNon_ok {G : Gm} {w : Wd} {x : Val} {v : V} (r : VR G w x v) : decide (v = .non) = isNon x := by
  cases r with
  | d h => cases h <;> simp [isNon]
  | ref h => simp [isNon]
  | tup h r => simp [isNon]
theorem c_is : CmpM Γ X .Is (gIs false) := ⟨_, OpR.or op_isN op_isBl, fun w H x y v u E Q R rx ry q => by
  unfold gIs at q
  split at q
  · cases ry with | d k => cases k; exact .inl ⟨rfl, by rw [isNon_ok rx]; exact okd_here R (.bl _) q⟩
  · next a b => cases rx with | d h => cases ry with | d k => cases h; cases k; exact .inr ⟨a, b, rfl, rfl, okd_here R (.bl _) q⟩
  · exact q.elim⟩
theorem c_isnot : CmpM Γ X .IsNot (gIs true) := ⟨_, OpR.or op_notN op_notBl, fun w H x y v u E Q R rx ry q => by
  unfold gIs at q
  split at q
  · cases ry with | d k => cases k; exact .inl ⟨rfl, by rw [isNon_ok rx]; exact okd_here R (.bl _) q⟩
  · next a b => cases rx with | d h => cases ry with | d k => cases h; cases k; exact .inr ⟨a, b, rfl, rfl, okd_here R (.bl _) q⟩
  · exact q.elim⟩
/-! ## in -/
/-- what is flat: None, a bool, a number, a text -/
def flat : Val → Bool
  | .d .non => true
  | .d (.bl _) => true
  | .d (.int _) => true
  | .d (.str _) => true
  | _ => false
def eqF : Val → Val → Bool
  | .d .non, .d .non => true
  | .d (.bl a), .d (.bl b) => a == b
  | .d (.bl a), .d (.int b) => (if a then 1 else 0) == b
  | .d (.int a), .d (.bl b) => a == (if b then 1 else 0)
  | .d (.int a), .d (.int b) => a == b
  | .d (.str a), .d (.str b) => a == b
  | _, _ => false
def inF (x : Val) (l : List Val) : Bool := l.any fun y => eqF y x
theorem flat_ok {G : Gm} {w : Wd} {x : Val} {v : V} (r : VR G w x v) (h : flat x = true) : flatV v = true := by
  cases r with
  | d k => cases k <;> first | rfl | cases h
  | ref _ => cases h
  | tup _ _ => cases h
theorem eqF_ok {G : Gm} {w : Wd} {x y : Val} {v u : V} (r : VR G w x v) (q : VR G w y u) (h : flat x = true) (k : flat y = true) : eqV v u = eqF x y := by
  cases r with
  | d r =>
    cases q with
    | d q => cases r <;> first | (cases q <;> first | rfl | cases k) | cases h
    | ref _ => cases k
    | tup _ _ => cases k
  | ref _ => cases h
  | tup _ _ => cases h
theorem inF_ok {G : Gm} {w : Wd} {x : Val} {v : V} (r : VR G w x v) (h : flat x = true) : ∀ {l : List Val} {us : List V}, VRs G w l us → l.all flat = true → inV v us = inF x l ∧ us.all flatV = true
  | _, _, .nil, _ => ⟨rfl, rfl⟩
  | _, _, .cons q t, a => by
    rw [List.all_cons, Bool.and_eq_true] at a
    obtain ⟨i1, i2⟩ := inF_ok r h t a.2
    refine ⟨?_, ?_⟩
    · show (eqV _ _ || inV v _) = (eqF _ x || inF x _)
      rw [eqF_ok q r a.1 h, i1]
    · rw [List.all_cons, flat_ok q a.1, i2]; rfl
def seqOf (S : Store) (x : Val) : Option (List Val) := match lstOf S x with
  | some l => some l
  | none => tupOf x
/-- x in s, s one of the kinds -/
def inD (S : Store) (x y : Val) : Option Bool := match seqOf S y with
  | some l => if flat x = true ∧ l.all flat = true then some (inF x l) else match pdV S x, pdV S y with
    | some d, some (.list ds) => if SeqAt.shaped d = true ∧ SeqAt.shaped (.list ds) = true then some (ds.any fun z => PyData.eqv z d) else none
    | _, _ => none
  | none => match x, y with
    | .d (.str c), .d (.str z) => match c.cps.toList with
      | [k] => some (decide (k ∈ z.cps.toList))
      | _ => none
    | _, _ => none
def gIn (n : Bool) (x y : Val) (S : Store) : Res Val := match inD S x y with
  | some b => okd (.bl (if n then !b else b)) S
  | none => .stuck
theorem seqOf_ok {w : Wd} {H : Hp} {x : Val} {v : V} {l : List Val} (R : Rep (gx X Γ) w H) (r : VR (gx X Γ) w x v) (e : seqOf w.S x = some l) : ∃ a us, v = .ref a ∧ (SqL X.K H a us ∨ SqT X.K H a us) ∧ VRs (gx X Γ) w l us := by
  unfold seqOf at e
  split at e
  · next m h =>
    cases e
    obtain ⟨a, us, e, h, r⟩ := lstOf_ok R r h
    exact ⟨a, us, e, .inl (sq_of h), r⟩
  · obtain ⟨a, us, e, h, r⟩ := tupOf_ok R r e
    exact ⟨a, us, e, .inr h, r⟩
theorem inD_ok {w : Wd} {H : Hp} {x y : Val} {v u : V} {b : Bool} (R : Rep (gx X Γ) w H) (rx : VR (gx X Γ) w x v) (ry : VR (gx X Γ) w y u) (e : inD w.S x y = some b) :
    (∃ p xs, u = .ref p ∧ (SqL X.K H p xs ∨ SqT X.K H p xs) ∧ flatV v = true ∧ xs.all flatV = true ∧ inV v xs = b) ∨
    (∃ d ds, Dp X.K H v d ∧ Dp X.K H u (.list ds) ∧ SeqAt.shaped d = true ∧ SeqAt.shaped (.list ds) = true ∧ (ds.any fun z => PyData.eqv z d) = b) ∨
    ∃ (c : Nat) (z : Str), v = .str ⟨#[c]⟩ ∧ u = .str z ∧ decide (c ∈ z.cps.toList) = b := by
  unfold inD at e
  split at e
  · next l hl =>
    split at e
    · next hf =>
      cases e
      obtain ⟨a, us, rfl, hq, ru⟩ := seqOf_ok R ry hl
      obtain ⟨i1, i2⟩ := inF_ok rx hf.1 ru hf.2
      exact .inl ⟨a, us, rfl, hq, flat_ok rx hf.1, i2, i1⟩
    · split at e
      · next d ds h1 h2 =>
        split at e
        · next hs => cases e; exact .inr (.inl ⟨d, ds, pdV_ok R rx h1, pdV_ok R ry h2, hs.1, hs.2, rfl⟩)
        · cases e
      · cases e
  · split at e
    · next c z _ =>
      split at e
      · next k hk =>
        cases e
        cases rx with | d h => ?_
        cases ry with | d h' => ?_
        cases h; cases h'
        refine .inr (.inr ⟨k, z, ?_, rfl, rfl⟩)
        have : c = ⟨#[k]⟩ := by
          cases c with
          | mk cps => simp at hk; congr 1; exact Array.toList_inj.mp (by simpa using hk)
        rw [this]
      · cases e
    · cases e
theorem c_in (hu : X.A.units + 65 < cLine) : CmpM Γ X .In (gIn false) := ⟨_, OpR.or op_in_seq (OpR.or (op_inD hu) op_in_sign), fun w H x y v u E Q R rx ry q => by
  unfold gIn at q
  split at q
  · next b h =>
    rcases inD_ok R rx ry h with ⟨p, xs, rfl, h1, h2, h3, h4⟩ | ⟨d, ds, h1, h2, h3, h4, h5⟩ | ⟨c, z, rfl, rfl, h1⟩
    · exact .inl ⟨p, xs, rfl, h1, h2, h3, by rw [h4]; exact okd_here R (.bl _) q⟩
    · exact .inr (.inl ⟨d, ds, h1, h2, h3, h4, by rw [h5]; exact okd_here R (.bl _) q⟩)
    · exact .inr (.inr ⟨c, z, rfl, rfl, by rw [h1]; exact okd_here R (.bl _) q⟩)
  · exact q.elim⟩
theorem c_notin (hu : X.A.units + 65 < cLine) : CmpM Γ X .NotIn (gIn true) := ⟨_, OpR.or op_notIn_seq (OpR.or (op_notInD hu) op_notIn_sign), fun w H x y v u E Q R rx ry q => by
  unfold gIn at q
  split at q
  · next b h =>
    rcases inD_ok R rx ry h with ⟨p, xs, rfl, h1, h2, h3, h4⟩ | ⟨d, ds, h1, h2, h3, h4, h5⟩ | ⟨c, z, rfl, rfl, h1⟩
    · exact .inl ⟨p, xs, rfl, h1, h2, h3, by rw [h4]; exact okd_here R (.bl _) q⟩
    · exact .inr (.inl ⟨d, ds, h1, h2, h3, h4, by rw [h5]; exact okd_here R (.bl _) q⟩)
    · exact .inr (.inr ⟨c, z, rfl, rfl, by rw [h1]; exact okd_here R (.bl _) q⟩)
  · exact q.elim⟩
/-! ## more of numbers -/
def gMod (x y : Val) (S : Store) : Res Val := match x, y with
  | .d (.int i), .d (.int j) => if 0 < j then okd (.int (i % j)) S else .stuck
  | _, _ => .stuck
theorem m_mod {e1 e2' : Expr} {pos : Pos} {f1 f2 : EF} (h1 : PM X Γ W e1 f1) (h2 : PM X Γ W e2' f2) : PM X Γ W (.BinOp e1 .Mod e2' pos) (e2 gMod f1 f2) :=
  m_op op_mod (fun w H x y v u E Q R rx ry p => by
    unfold gMod at p
    split at p
    · next i j =>
      split at p
      · next hj => cases rx with | d h => cases ry with | d k => cases h; cases k; exact ⟨i, j, rfl, rfl, hj, okd_here R (.int _) p⟩
      · exact p.elim
    · exact p.elim) h1 h2
def gDiv (x y : Val) (S : Store) : Res Val := match x, y with
  | .d (.int i), .d (.int j) => if CDiv i j then okd (.int (i / j)) S else .stuck
  | _, _ => .stuck
theorem m_div {e1 e2' : Expr} {pos : Pos} {f1 f2 : EF} (h1 : PM X Γ W e1 f1) (h2 : PM X Γ W e2' f2) : PM X Γ W (.BinOp e1 .FloorDiv e2' pos) (e2 gDiv f1 f2) :=
  m_op op_fdiv (fun w H x y v u E Q R rx ry p => by
    unfold gDiv at p
    split at p
    · next i j =>
      split at p
      · next hj => cases rx with | d h => cases ry with | d k => cases h; cases k; exact ⟨i, j, rfl, rfl, hj, okd_here R (.int _) p⟩
      · exact p.elim
    · exact p.elim) h1 h2
def gPow (x y : Val) (S : Store) : Res Val := match x, y with
  | .d (.int i), .d (.int j) => if CPow i j then okd (.int (i ^ j.toNat)) S else .stuck
  | _, _ => .stuck
theorem m_pow {e1 e2' : Expr} {pos : Pos} {f1 f2 : EF} (h1 : PM X Γ W e1 f1) (h2 : PM X Γ W e2' f2) : PM X Γ W (.BinOp e1 .Pow e2' pos) (e2 gPow f1 f2) :=
  m_op op_pow (fun w H x y v u E Q R rx ry p => by
    unfold gPow at p
    split at p
    · next i j =>
      split at p
      · next hj => cases rx with | d h => cases ry with | d k => cases h; cases k; exact ⟨i, j, rfl, rfl, hj, okd_here R (.int _) p⟩
      · exact p.elim
    · exact p.elim) h1 h2
theorem m_mul {b : Bool} {e1 e2' : Expr} {pos : Pos} {f1 f2 : EF} (h1 : PM X Γ W e1 f1) (h2 : PM X Γ W e2' f2) : PM X Γ W (.BinOp e1 .Mult e2' pos) (e2 (gMul b) f1 f2) :=
  m_op (OpR.or op_mul (OpR.or op_rep op_repT)) gMul_ok h1 h2
def gNeg (x : Val) (S : Store) : Res Val := match x with
  | .d (.int i) => okd (.int (-i)) S
  | _ => .stuck
def e1 (g : Val → Store → Res Val) (f : EF) : EF := fun e S => rbind (f e S) g
theorem m_neg {a : Expr} {pos : Pos} {f : EF} (h : PM X Γ W a f) : PM X Γ W (.UnaryOp .USub a pos) (e1 gNeg f) := by
  refine pe_wk (pe_un un_neg h) fun σ H Q ⟨env, w, er, R, p⟩ => ?_
  refine ⟨env, w, er, R, p.bind fun x u H v l R r p => ?_⟩
  unfold gNeg at p
  split at p
  · next i => cases r with | d h => cases h; exact ⟨i, rfl, okd_here R (.int _) p⟩
  · exact p.elim
/-- a < b < c -/
def eChain (g1 g2 : Val → Val → Store → Res Val) (f1 f2 f3 : EF) : EF := fun e S => rbind (f1 e S) fun x S => rbind (f2 e S) fun y S => rbind (rbind (g1 x y S) rbool) fun b S => if b = true then rbind (f3 e S) fun z S => g2 y z S else okd (.bl false) S
end
end Z
set_option Elab.async false
set_option linter.all false
set_option maxRecDepth 100000
set_option maxHeartbeats 4000000
namespace Z
open PySem L2 Evl NdefX LamX
section
variable {X : Cx} {Γ : Gr} {W : WX}
/-! ## one of two rules, by what comes -/
theorem pe_either {e : Expr} {t t' : TE} (h : PE X e t) (h' : PE X e t') : PE X e (fun σ H Q => t σ H Q ∨ t' σ H Q) := ⟨fun pins s σ H Q I q => q.elim (h.run pins s σ H Q I) (h'.run pins s σ H Q I)⟩
theorem pt_either {e : Expr} {t t' : TT} (h : PT X e t) (h' : PT X e t') : PT X e (fun σ H Q => t σ H Q ∨ t' σ H Q) := ⟨fun pins s σ H Q I q => q.elim (h.run pins s σ H Q I) (h'.run pins s σ H Q I)⟩
theorem pi_either {tg e : Expr} {t t' : TI} (h : PI X tg e t) (h' : PI X tg e t') : PI X tg e (fun σ H Q => t σ H Q ∨ t' σ H Q) := ⟨fun pins s σ H Q I q => q.elim (h.run pins s σ H Q I) (h'.run pins s σ H Q I)⟩
def gSel {α : Type} (c : Val → Val → Store → Bool) (g1 g2 : Val → Val → Store → Res α) (x y : Val) (S : Store) : Res α := if c x y S = true then g1 x y S else g2 x y S
def e2' {α : Type} (g : Val → Val → Store → Res α) (f1 f2 : EF) : Envr → Store → Res α := fun e S => rbind (f1 e S) fun x S => rbind (f2 e S) fun y S => g x y S
theorem tM_sel {α β : Type} {G : Gm} {R : Wd → α → β → Prop} {c : Val → Val → Store → Bool} {g1 g2 : Val → Val → Store → Res α} {f1 f2 : EF} {σ : L2.St} {H : Hp} {Q : β → Hp → Prop} (h : tM G R W (e2' (gSel c g1 g2) f1 f2) σ H Q) :
    tM G R W (e2' g1 f1 f2) σ H Q ∨ tM G R W (e2' g2 f1 f2) σ H Q := by
  obtain ⟨env, w, er, R, p⟩ := h
  have key : e2' (gSel c g1 g2) f1 f2 env w.S = e2' g1 f1 f2 env w.S ∨ e2' (gSel c g1 g2) f1 f2 env w.S = e2' g2 f1 f2 env w.S := by
    unfold e2'
    cases f1 env w.S with
    | ok x S1 =>
      show rbind (f2 env S1) _ = rbind (f2 env S1) _ ∨ rbind (f2 env S1) _ = rbind (f2 env S1) _
      cases f2 env S1 with
      | ok y S2 =>
        show gSel c g1 g2 x y S2 = g1 x y S2 ∨ gSel c g1 g2 x y S2 = g2 x y S2
        unfold gSel
        split
        · exact .inl rfl
        · exact .inr rfl
      | exc _ _ => exact .inl rfl
      | stuck => exact .inl rfl
    | exc _ _ => exact .inl rfl
    | stuck => exact .inl rfl
  rcases key with k | k
  · rw [k] at p; exact .inl ⟨env, w, er, R, p⟩
  · rw [k] at p; exact .inr ⟨env, w, er, R, p⟩
/-! ## a < b < c -/
theorem chain_ok {r r' : R2} {g1 g2 : Val → Val → Store → Res Val} (h1 : OpM Γ X r g1) (h2 : OpM Γ X r' g2) {f1 f2 f3 : EF} : ∀ σ H Q, tM (gx X Γ) (VR (gx X Γ)) W (eChain g1 g2 f1 f2 f3) σ H Q →
    tChain r r' (tM (gx X Γ) (VR (gx X Γ)) W f1) (tM (gx X Γ) (VR (gx X Γ)) W f2) (tM (gx X Γ) (VR (gx X Γ)) W f3) σ H Q := fun σ H Q ⟨env, w, er, R, p⟩ => by
  refine ⟨env, w, er, R, p.bind fun x u H v l R r p => ?_⟩
  refine ⟨env, u, er.up l, R, p.bind fun y u2 H v2 l2 R r2 p => ?_⟩
  rw [rbind_assoc] at p
  refine h1 u2 H x y v v2 _ _ R (r.up l2) r2 (p.bind fun z u3 H v3 l3 R r3 p => ?_)
  obtain ⟨c, ec, h⟩ := rbool_ok (Q := fun c H => if c = true then tM (gx X Γ) (VR (gx X Γ)) W f3 σ H (fun w' H4 => r' v2 w' H4 Q) else Q (.bl false) H) R r3 (p.bind fun b u4 H v4 l4 R rb p => by
    cases rb
    cases b with
    | false => exact okd_here R (.bl _) p
    | true => exact ⟨env, u4, (((er.up l).up l2).up l3).up l4, R, p.bind fun z u5 H v5 l5 R r5 p => h2 u5 H y z v2 v5 _ Q R (((r2.up l3).up l4).up l5) r5 p⟩)
  exact ⟨c, ec, h⟩
theorem m_chain {op op' : CmpOp} {g1 g2 : Val → Val → Store → Res Val} {a b c : Expr} {pos : Pos} {f1 f2 f3 : EF} (c1 : CmpM Γ X op g1) (c2 : CmpM Γ X op' g2) (h1 : PM X Γ W a f1) (h2 : PM X Γ W b f2) (h3 : PM X Γ W c f3)
    (hm : lastMarks [op, op'] [b, c] = false := by with_unfolding_all rfl) : PM X Γ W (.Compare a [op, op'] [b, c] pos) (eChain g1 g2 f1 f2 f3) := by
  obtain ⟨r, ho, hg⟩ := c1.ex
  obtain ⟨r', ho', hg'⟩ := c2.ex
  exact pe_wk (pe_chain ho ho' h1 h2 h3 hm) (chain_ok hg hg')
theorem tm_chain {op op' : CmpOp} {g1 g2 : Val → Val → Store → Res Val} {a b c : Expr} {pos : Pos} {f1 f2 f3 : EF} (c1 : CmpM Γ X op g1) (c2 : CmpM Γ X op' g2) (h1 : PM X Γ W a f1) (h2 : PM X Γ W b f2) (h3 : PM X Γ W c f3)
    (hm : lastMarks [op, op'] [b, c] = false := by with_unfolding_all rfl) : TM X Γ W (.Compare a [op, op'] [b, c] pos) (bVal (eChain g1 g2 f1 f2 f3)) := by
  obtain ⟨r, ho, hg⟩ := c1.ex
  obtain ⟨r', ho', hg'⟩ := c2.ex
  exact pt_wk (pt_chain ho ho' h1 h2 h3 hm) (t_val fun σ H Q h => chain_ok hg hg' σ H _ h)
/-! ## isinstance, len -/
def kindV (S : Store) : Val → Option String
  | .d .non => some "NoneType"
  | .d (.bl _) => some "bool"
  | .d (.int _) => some "int"
  | .d (.str _) => some "str"
  | .d (.tup _) => some "tuple"
  | .d (.lst _) => some "list"
  | .d (.dct _ _) => some "dict"
  | .tup _ => some "tuple"
  | .ref i => match S[i]? with
    | some (some (.lst _)) => some "list"
    | some (some (.dct _)) => some "dict"
    | _ => none
  | _ => none
def isK (k T : String) : Bool := k == T || (k == "bool" && T == "int")
theorem kit_tab : (["NoneType", "bool", "int", "str", "tuple", "list", "dict"].all fun a => ["str", "tuple", "list", "bool", "int"].all fun b => decide (kitB a b = some (isK a b))) = true := by decide +kernel
theorem kindV_ok {w : Wd} {H : Hp} {x : Val} {v : V} {k : String} (R : Rep (gx X Γ) w H) (r : VR (gx X Γ) w x v) (e : kindV w.S x = some k) : TyX X.K H v (.type k) ∧ k ∈ ["NoneType", "bool", "int", "str", "tuple", "list", "dict"] := by
  have tup : ∀ {a : Addr} {us : List V}, SqT X.K H a us → TyX X.K H (.ref a) (.type "tuple") := fun h => by
    rcases h with (h | ⟨o, h⟩) | ⟨o, its, n, h, hc, _⟩
    · exact .base (.tup h)
    · exact .fTuple h
    · exact .kTuple h hc
  unfold kindV at e
  split at e <;> (try (cases e; done))
  · cases e; cases r with | d h => cases h; exact ⟨.base .non, by decide⟩
  · cases e; cases r with | d h => cases h; exact ⟨.base (.bl _), by decide⟩
  · cases e; cases r with | d h => cases h; exact ⟨.base (.int _), by decide⟩
  · cases e; cases r with | d h => cases h; exact ⟨.base (.str _), by decide⟩
  · cases e; cases r with | d h => cases h with | tup h r => exact ⟨tup (ex_t R.sub' h), by decide⟩
  · cases e; cases r with | d h => cases h with | lst h r => exact ⟨.base (.lst (R.sub' _ _ h)), by decide⟩
  · cases e; cases r with | d h => cases h with | dct h k r => exact ⟨.base (.dK (R.sub' _ _ h)), by decide⟩
  · cases e; cases r with | tup h r => exact ⟨tup (ex_t R.sub' h), by decide⟩
  · split at e
    · next q =>
      cases e; cases r
      obtain ⟨κ, R⟩ := R
      obtain ⟨vs, h, _⟩ := R.cell _ _ q
      exact ⟨.base (.lst h), by decide⟩
    · next q =>
      cases e; cases r
      obtain ⟨κ, R⟩ := R
      obtain ⟨vs, h, _⟩ := R.cell _ _ q
      exact ⟨.base (.dK h), by decide⟩
    · cases e
def gIsi (T : String) (x : Val) (S : Store) : Res Val := match kindV S x with
  | some k => okd (.bl (isK k T)) S
  | none => .stuck
theorem m_isi {a b : Expr} {p pos : Pos} {T : String} {f : EF} (hT : T ∈ ["str", "tuple", "list", "bool", "int"]) (hg : Gl X "isinstance") (hm : X.mg "isinstance" = none) (h : PM X Γ W a f) (hb : PE X b (tC (.ty T)))
    (he : starEach [a, b] X.env = (false, eval a X.env) :: starEach [b] X.env := by rfl) (he2 : starEach [b] X.env = (false, eval b X.env) :: starEach [] X.env := by rfl) (hpl : (backTo pos (starEach [b] X.env)).any (·.1) = false := by rfl) :
    PM X Γ W (.Call (.Name "isinstance" p) [a, b] [] pos) (e1 (gIsi T) f) := by
  refine pe_wk (pe_callB call_isi hg hm (by decide +kernel) (pa_cons h (pa_cons hb pa_nil he2) he) (by decide) (by decide) he hpl) fun σ H Q ⟨env, w, er, R, p⟩ => ?_
  refine ⟨env, w, er, R, p.bind fun x u H v l R r p => ?_⟩
  unfold gIsi at p
  split at p
  · next k hk =>
    obtain ⟨ty, hm⟩ := kindV_ok R r hk
    have tab := kit_tab
    rw [List.all_eq_true] at tab
    have t1 := tab k hm
    rw [List.all_eq_true] at t1
    exact ⟨v, .ty T, _, _, isK k T, rfl, .ty T, ty, kit_ty (of_decide_eq_true (t1 T hT)), okd_here R (.bl _) p⟩
  · exact p.elim
def lenOf (S : Store) (x : Val) : Option Nat := match x with
  | .d (.str s) => if s.length ≤ 100000 then some s.length else none
  | .d (.scr ns) => some ns.length
  | x => (seqOf S x).map List.length
def gLen (x : Val) (S : Store) : Res Val := match lenOf S x with
  | some n => okd (.int (n : Int)) S
  | none => .stuck
theorem m_len {a : Expr} {p pos : Pos} {f : EF} (hg : Gl X "len") (hm : X.mg "len" = none) (h : PM X Γ W a f) (he : starEach [a] X.env = (false, eval a X.env) :: starEach [] X.env := by rfl) (hpl : (backTo pos (starEach [] X.env)).any (·.1) = false := by rfl) :
    PM X Γ W (.Call (.Name "len" p) [a] [] pos) (e1 gLen f) := by
  refine pe_wk (pe_callB call_len hg hm (by decide +kernel) (pa_cons h pa_nil he) (by decide) (by decide) he hpl) fun σ H Q ⟨env, w, er, R, p⟩ => ?_
  refine ⟨env, w, er, R, p.bind fun x u H v l R r p => ?_⟩
  unfold gLen at p
  split at p
  · next n hn =>
    refine ⟨v, n, rfl, ?_, okd_here R (.int _) p⟩
    unfold lenOf at hn
    split at hn
    · next s =>
      split at hn
      · next hl => cases hn; cases r with | d h => cases h; exact ⟨sz_of hl, rfl⟩
      · cases hn
    · next ns => cases hn; cases r with | d h => cases h with | scr h => exact .inl ⟨_, ex_l R.sub' h, by simp⟩
    · cases q : seqOf u.S x with
      | none => rw [q] at hn; cases hn
      | some l =>
        rw [q] at hn; cases hn
        obtain ⟨a, us, rfl, hs, ru⟩ := seqOf_ok R r q
        rcases hs with hs | hs
        · exact .inl ⟨us, hs, ru.len⟩
        · exact .inr ⟨us, hs, ru.len⟩
  · exact p.elim
/-! ## subscripts -/
theorem VRs.atI {G : Gm} {w : Wd} {l : List Val} {us : List V} {i : Int} {x : Val} (h : VRs G w l us) (e : L2.atI l i = some x) : ∃ v, L2.atI us i = some v ∧ VR G w x v := by
  unfold L2.atI at e ⊢
  rw [← h.len]
  cases q : ixN l.length i with
  | none => rw [q] at e; cases e
  | some k =>
    rw [q] at e
    exact VRs.at (i := k) h (by simpa using e)
def gIx (x y : Val) (S : Store) : Res Val := match x, y with
  | .d (.scr ns), .d (.int i) => match L2.atI ns i with
    | some n => okd (.int n) S
    | none => .stuck
  | x, .d (.int i) => match seqOf S x with
    | some l => match L2.atI l i with
      | some z => .ok z S
      | none => .stuck
    | none => .stuck
  | _, _ => .stuck
theorem atI_map {α β : Type} (f : α → β) (l : List α) (i : Int) : L2.atI (l.map f) i = (L2.atI l i).map f := by
  unfold L2.atI
  rw [List.length_map]
  cases ixN l.length i with
  | none => rfl
  | some j => simp
theorem gIx_ok : OpM Γ X (rIx X.K) gIx := fun w H x y v u E Q R rx ry p => by
  unfold gIx at p
  split at p
  · next ns i =>
    split at p
    · next n hn =>
      (cases rx with | d h => ?_)
      (cases ry with | d k => ?_)
      cases k
      (cases h with | scr h => ?_)
      exact .inl ⟨_, _, i, .int n, rfl, rfl, ex_l R.sub' h, by rw [atI_map, hn]; rfl, okd_here R (.int _) p⟩
    · exact p.elim
  · next i _ =>
    split at p
    · next l hl =>
      split at p
      · next z hz =>
        (cases ry with | d k => ?_)
        cases k
        obtain ⟨a, us, rfl, hs, ru⟩ := seqOf_ok R rx hl
        obtain ⟨zv, h1, h2⟩ := ru.atI hz
        rcases hs with hs | hs
        · exact .inl ⟨a, us, i, zv, rfl, rfl, hs, h1, p.here R h2⟩
        · exact .inr (.inl ⟨a, us, i, zv, rfl, rfl, hs, h1, p.here R h2⟩)
      · exact p.elim
    · exact p.elim
  · exact p.elim
def gDget (x y : Val) (S : Store) : Res Val := match dctOf S x, keyOf y with
  | some l, some k => match kget l k with
    | some z => .ok z S
    | none => .stuck
  | _, _ => .stuck
theorem dgetK {H : Hp} {a : Addr} {us : List (Key × V)} {k : Key} {o : Option V} (h : H a = some (.dK us)) (e : valV us k = o) : DGet H a (kV k) o := e ▸ DGet.k h
def isDct (x y : Val) (S : Store) : Bool := (dctOf S x).isSome
def gSub (x y : Val) (S : Store) : Res Val := gSel isDct gDget gIx x y S
theorem m_sub' {a b : Expr} {pos : Pos} {f1 f2 : EF} (hu : X.A.units + 1 < cLine) (h1 : PM X Γ W a f1) (h2 : PM X Γ W b f2) (hs : PlainIx b := by intro _ _; rfl) (hn : NoSl b := by intro _ _; rfl) : PM X Γ W (.Subscript a b pos) (e2 gSub f1 f2) := by
  refine pe_wk (pe_either (pe_wk (t' := tM (gx X Γ) (VR (gx X Γ)) W (e2' gDget f1 f2)) (pe_dget hu h1 h2 hn) fun σ H Q ⟨env, w, er, R, p⟩ => ?_) (pe_ix (r := rIx X.K) ix_seq h1 h2 hs)) fun σ H Q h => (tM_sel h).imp id (t_op gIx_ok σ H Q)
  refine ⟨env, w, er, R, p.bind fun x u H v l R r p => ?_⟩
  refine ⟨env, u, er.up l, R, p.bind fun y u2 H v2 l2 R r2 p => ?_⟩
  unfold gDget at p
  split at p
  · next m k h1 h2 =>
    split at p
    · next z hz =>
      obtain ⟨a, us, rfl, ha, pr⟩ := dctOf_ok R (r.up l2) h1
      obtain rfl := keyOf_ok r2 h2
      rcases pr.get k with ⟨e, _⟩ | ⟨x', u', e1, e2, rr⟩
      · rw [e] at hz; cases hz
      · rw [e1] at hz; cases hz
        exact ⟨a, u', rfl, dgetK ha e2, p.here R rr⟩
    · exact p.elim
  · exact p.elim
/-! ## slices -/
abbrev OF := Envr → Store → Res (Option Int)
def OM (X : Cx) (Γ : Gr) (W : WX) (e : Option Expr) (f : OF) : Prop := PO X e (tM (gx X Γ) (fun _ (x y : Option Int) => x = y) W f)
theorem po_wk {e : Option Expr} {t t' : TO} (h : PO X e t) (k : ∀ σ H Q, t' σ H Q → t σ H Q) : PO X e t' := ⟨fun pins s σ H Q I q => h.run pins s σ H Q I (k _ _ _ q)⟩
def oNone : OF := fun _ S => .ok none S
def rint (x : Val) (S : Store) : Res (Option Int) := match x with
  | .d (.int i) => .ok (some i) S
  | _ => .stuck
def oSome (f : EF) : OF := fun e S => rbind (f e S) rint
theorem mo_none : OM X Γ W none oNone := po_wk po_none fun σ H Q ⟨env, w, er, R, p⟩ => p.here R rfl
theorem mo_some {e : Expr} {f : EF} (h : PM X Γ W e f) : OM X Γ W (some e) (oSome f) := by
  refine po_wk (po_some h) fun σ H Q ⟨env, w, er, R, p⟩ => ?_
  refine ⟨env, w, er, R, p.bind fun x u H v l R r p => ?_⟩
  unfold rint at p
  split at p
  · next i => cases r with | d h => cases h; exact ⟨i, rfl, p.here R rfl⟩
  · exact p.elim
def gcut {α : Type} (l : List α) (lo hi : Option Int) : List α := (l.drop (HT.sIx l.length 0 lo)).take (HT.sIx l.length l.length hi - HT.sIx l.length 0 lo)
theorem VRs.gcut {G : Gm} {w : Wd} {l : List Val} {us : List V} (h : VRs G w l us) (lo hi : Option Int) : VRs G w (Z.gcut l lo hi) (cutV us lo hi) := by
  unfold Z.gcut cutV
  rw [h.len]
  exact VRs.take _ (VRs.drop _ h)
def strOf : Val → Option Str
  | .d (.str s) => some s
  | _ => none
def intOf : Val → Option Int
  | .d (.int i) => some i
  | _ => none
theorem strOf_ok {G : Gm} {w : Wd} {x : Val} {v : V} {s : Str} (r : VR G w x v) (e : strOf x = some s) : v = .str s := by
  unfold strOf at e
  split at e
  · cases e; cases r with | d h => cases h; rfl
  · cases e
theorem intOf_ok {G : Gm} {w : Wd} {x : Val} {v : V} {i : Int} (r : VR G w x v) (e : intOf x = some i) : v = .int i := by
  unfold intOf at e
  split at e
  · cases e; cases r with | d h => cases h; rfl
  · cases e
def gSli (live : Bool) (x : Val) (lo hi : Option Int) (S : Store) : Res Val := match strOf x with
  | some s => if s.length ≤ 100000 then okd (.str (cutS s lo hi)) S else .stuck
  | none => match lstOf S x with
    | some l => mkL live (gcut l lo hi) S
    | none => match tupOf x with
      | some l => .ok (mkTup (gcut l lo hi)) S
      | none => .stuck
def eSli (live : Bool) (f : EF) (fl fh : OF) : EF := fun e S => rbind (f e S) fun x S => rbind (fl e S) fun lo S => rbind (fh e S) fun hi S => gSli live x lo hi S
theorem SlR.or {r r' : V → Option Int → Option Int → Hp → VK → Prop} (h : SlR X r) (h' : SlR X r') : SlR X (fun x lo hi H Q => r x lo hi H Q ∨ r' x lo hi H Q) := by
  intro pins s σ H x v vl vu lo hi sl Q I rx hs pl pu q
  rcases q with q | q
  · exact h pins s σ H x v vl vu lo hi sl Q I rx hs pl pu q
  · exact h' pins s σ H x v vl vu lo hi sl Q I rx hs pl pu q
theorem m_sli {b : Bool} {a : Expr} {lo hi : Option Expr} {p2 pos : Pos} {f : EF} {fl fh : OF} (h : PM X Γ W a f) (hl : OM X Γ W lo fl) (hh : OM X Γ W hi fh) : PM X Γ W (.Subscript a (.Slice lo hi none p2) pos) (eSli b f fl fh) := by
  refine pe_wk (pe_slice (SlR.or sl_list (SlR.or sl_tupA sl_str)) h hl hh) fun σ H Q ⟨env, w, er, R, p⟩ => ?_
  refine ⟨env, w, er, R, p.bind fun x u H v l R r p => ?_⟩
  refine ⟨env, u, er.up l, R, p.bind fun lo u2 H lo' l2 R elo p => ?_⟩
  refine ⟨env, u2, (er.up l).up l2, R, p.bind fun hi u3 H hi' l3 R ehi p => ?_⟩
  subst elo ehi
  have r := (r.up l2).up l3
  unfold gSli at p
  split at p
  · next s he =>
    split at p
    · next hs => exact .inr (.inr ⟨s, strOf_ok r he, sz_of hs, okd_here R (.str _) p⟩)
    · exact p.elim
  · split at p
    · next m hm =>
      obtain ⟨a, us, rfl, ha, ru⟩ := lstOf_ok R r hm
      exact .inl ⟨a, us, rfl, sq_of ha, mkL_ok R (ru.gcut lo hi) p⟩
    · split at p
      · next m hm =>
        obtain ⟨a, us, rfl, ha, ru⟩ := tupOf_ok R r hm
        obtain ⟨_, _, ea, fa, ga⟩ := r.tupOf hm
        refine .inr (.inl ⟨a, us, rfl, ha, fun hw => ?_, fun hw q hq => ?_⟩)
        · cases ea
          refine p.here R (VR.mkTup fa ?_)
          have : gcut m lo hi = m := by
            unfold gcut
            rw [ru.len, hw.1, hw.2, ← ru.len]
            simp
          rw [this]; exact ga
        · exact p (u3.add q (.tup _)) _ _ rfl (Le.add (R.noF hq)) (R.new hq) (VR.mkTup (st_of upd_same) ((ru.gcut lo hi).up (Le.add (R.noF hq))))
      · exact p.elim
/-! ## fields -/
/-- the classes of the program, and the names that are no attribute of them -/
structure FldOk (X : Cx) (Γ : Gr) (f : Str) (cs : List Str) : Prop where
  at_ : ∀ c ∈ cs, Cls X.K (Γ.C c) ∧ NoAttr X.K (Γ.C c) f
def gFld (cs : List Str) (f : Str) (x : Val) (S : Store) : Res Val := match insOf S x with
  | some (c, l) => if c ∈ cs then (match l.lookup f with
    | some y => .ok y S
    | none => .stuck) else .stuck
  | none => .stuck
theorem m_fld {a : Expr} {f : Str} {pos : Pos} {cs : List Str} {g : EF} (k : FldOk X Γ f cs) (h : PM X Γ W a g) (hb : attributeBase a f X.env (eval a X.env) = eval a X.env := by rfl) : PM X Γ W (.Attribute a f pos) (e1 (gFld cs f) g) := by
  refine pe_wk (pe_fld h hb) fun σ H Q ⟨env, w, er, R, p⟩ => ?_
  refine ⟨env, w, er, R, p.bind fun x u H v l R r p => ?_⟩
  unfold gFld at p
  split at p
  · next c m hm =>
    split at p
    · next hc =>
      split at p
      · next y hy =>
        obtain ⟨a, dx, us, rfl, ha, pr⟩ := insOf_ok R r hm
        rcases pr.look f with ⟨e, _⟩ | ⟨x', u', e1, e2, rr⟩
        · rw [e] at hy; cases hy
        · rw [e1] at hy; cases hy
          exact ⟨a, _, dx, us, u', rfl, ha, (k.at_ c hc).1, (k.at_ c hc).2, e2, p.here R rr⟩
      · exact p.elim
    · exact p.elim
  · exact p.elim
/-- o.f = e -/
def gFput (cs : List Str) (f : Str) (x y : Val) (S : Store) : Option Store := match x with
  | .ref i => match S[i]? with
    | some (some (.ins c l)) => if c ∈ cs ∧ l.length < 1000 then some (S.set i (some (.ins c (fput f y l)))) else none
    | _ => none
  | _ => none
def sFput (cs : List Str) (f : Str) (fo fv : EF) : SF := fun e S => sbind e (fv e S) fun y S => sbind e (fo e S) fun x S => match gFput cs f x y S with
  | some S' => .nx e S'
  | none => .stuck
theorem gFput_ok {w : Wd} {H : Hp} {x y : Val} {v u : V} {S' : Store} {cs : List Str} {f : Str} (R : Rep (gx X Γ) w H) (rx : VR (gx X Γ) w x v) (ry : VR (gx X Γ) w y u) (e : gFput cs f x y w.S = some S') :
    ∃ a c dx fs, c ∈ cs ∧ v = .ref a ∧ H a = some (.ins (Γ.C c) dx fs) ∧ fs.length < 1000 ∧ Rep (gx X Γ) { w with S := S' } (upd H a (.ins (Γ.C c) dx (L2.putF f u fs))) ∧ Le w { w with S := S' } := by
  unfold gFput at e
  split at e
  · next i =>
    split at e
    · next c l q =>
      split at e
      · next hc =>
        cases e
        cases rx
        have k : ∃ dx us, H (w.ρ i) = some (.ins (Γ.C c) dx us) ∧ PR (gx X Γ) w l us := by
          obtain ⟨κ, R⟩ := R
          obtain ⟨dx, us, h, k, r⟩ := R.cell i _ q
          exact ⟨dx, us, h, k, r⟩
        obtain ⟨dx, us, h, pr⟩ := k
        have pr2 := pr.putF f ry
        exact ⟨_, c, dx, us, hc.1, rfl, h, by rw [← pr.len]; exact hc.2, R.write q (fun _ _ z => by cases z) (fun _ _ z => by cases z) ⟨dx, _, upd_same, pr2.k, pr2.v⟩, Le.set _⟩
      · cases e
    · cases e
  · cases e
theorem ms_fput {o a : Expr} {f : Str} {p' pos : Pos} {cs : List Str} {fo fv : EF} (k : FldOk X Γ f cs) (ho : PM X Γ W o fo) (hv : PM X Γ W a fv) (hs : swapsWith a (some (.Attribute o f p')) pos.line X.env = pure false := by rfl) :
    SM X Γ W (.Assign [.Attribute o f p'] a pos) (sFput cs f fo fv) := by
  refine ps_wk (ps_fld ho hv hs) fun D σ H ⟨env, w, er, R, p⟩ => ?_
  refine ⟨env, w, er, R, Sst.bind er p fun y u H v l R er ry p => ?_⟩
  refine ⟨env, u, er, R, Sst.bind er p fun x u2 H2 v2 l2 R2 er2 rx p => ?_⟩
  split at p
  · next S' h =>
    obtain ⟨a, c, dx, fs, hc, rfl, ha, hl, R3, le⟩ := gFput_ok R2 rx (ry.up l2) h
    exact ⟨a, _, dx, fs, rfl, ha, (k.at_ c hc).1, (k.at_ c hc).2, hl, p _ _ σ rfl le R3 (er2.up le)⟩
  · exact p.elim
/-- o.f += e, numbers -/
def sFaug (cs : List Str) (f : Str) (fo fv : EF) : SF := fun e S => sbind e (fo e S) fun x S => match insOf S x with
  | some (c, l) => if c ∈ cs then (match l.lookup f with
    | some z => sbind e (fv e S) fun y S => match intOf z, intOf y with
      | some i, some j => match gFput [c] f x (.d (.int (i + j))) S with
        | some S' => .nx e S'
        | none => .stuck
      | _, _ => .stuck
    | none => .stuck) else .stuck
  | none => .stuck
theorem ms_faug {o a : Expr} {f : Str} {tp pos : Pos} {cs : List Str} {fo fv : EF} (k : FldOk X Γ f cs) (ho : PM X Γ W o fo) (hv : PM X Γ W a fv) : SM X Γ W (.AugAssign (.Attribute o f tp) .Add a pos) (sFaug cs f fo fv) := by
  refine ps_wk (ps_fldaug ho hv in_add) fun D σ H ⟨env, w, er, R, p⟩ => ?_
  refine ⟨env, w, er, R, Sst.bind er p fun x u H v l R er rx p => ?_⟩
  split at p
  · next c m hm =>
    split at p
    · next hc =>
      split at p
      · next z hz =>
        obtain ⟨a, dx, us, rfl, ha, pr⟩ := insOf_ok R rx hm
        rcases pr.look f with ⟨e, _⟩ | ⟨x', u', e1, e2, rr⟩
        · rw [e] at hz; cases hz
        · rw [e1] at hz; cases hz
          refine ⟨a, _, dx, us, u', rfl, ha, (k.at_ c hc).1, (k.at_ c hc).2, e2, env, u, er, R, Sst.bind er p fun y u2 H2 v2 l2 R2 er2 ry p2 => ?_⟩
          split at p2
          · next i j hi hj =>
            split at p2
            · next S' h =>
              obtain ⟨a', c', dx', fs', hc', e', ha', hl', R3, le⟩ := gFput_ok R2 (rx.up l2) (.d (.int (i + j))) h
              cases e'
              simp only [List.mem_cons, List.not_mem_nil, or_false] at hc'
              subst hc'
              exact ⟨i, j, intOf_ok rr hi, intOf_ok ry hj, dx', fs', ha', hl', p2 _ _ σ rfl le R3 (er2.up le)⟩
            · exact p2.elim
          · exact p2.elim
      · exact p.elim
    · exact p.elim
  · exact p.elim
end
end Z
set_option Elab.async false
set_option linter.all false
set_option maxRecDepth 100000
set_option maxHeartbeats 4000000
namespace Z
open PySem L2 Evl NdefX LamX
section
variable {X : Cx} {Γ : Gr} {W : WX}
/-! ## dicts -/
/-- k in d, by what d is -/
def gDin (n : Bool) (x y : Val) (S : Store) : Res Val := match dctOf S y, keyOf x with
  | some l, some k => okd (.bl (if n then !(kget l k).isSome else (kget l k).isSome)) S
  | _, _ => .stuck
def isDct2 (x y : Val) (S : Store) : Bool := (dctOf S y).isSome
def gInA (n : Bool) : Val → Val → Store → Res Val := gSel isDct2 (gDin n) (gIn n)
theorem din_ok {n : Bool} {f1 f2 : EF} : ∀ σ H Q, tM (gx X Γ) (VR (gx X Γ)) W (e2' (gDin n) f1 f2) σ H Q →
    tM (gx X Γ) (VR (gx X Γ)) W f1 σ H fun y H1 => tM (gx X Γ) (VR (gx X Γ)) W f2 σ H1 fun x H2 => ∃ a o, x = .ref a ∧ DGet H2 a y o ∧ Q (.bl (if n then !o.isSome else o.isSome)) H2 := fun σ H Q ⟨env, w, er, R, p⟩ => by
  refine ⟨env, w, er, R, p.bind fun x u H v l R r p => ?_⟩
  refine ⟨env, u, er.up l, R, p.bind fun y u2 H v2 l2 R r2 p => ?_⟩
  unfold gDin at p
  split at p
  · next m k h1 h2 =>
    obtain ⟨a, us, rfl, ha, pr⟩ := dctOf_ok R r2 h1
    obtain rfl := keyOf_ok (r.up l2) h2
    refine ⟨a, valV us k, rfl, dgetK ha rfl, ?_⟩
    rcases pr.get k with ⟨e, e'⟩ | ⟨x', u', e1, e2, rr⟩
    · rw [e] at p; rw [e']; exact okd_here R (.bl _) p
    · rw [e1] at p; rw [e2]; exact okd_here R (.bl _) p
  · exact p.elim
theorem m_in {a b : Expr} {pos : Pos} {f1 f2 : EF} (hu : X.A.units + 65 < cLine) (h1 : PM X Γ W a f1) (h2 : PM X Γ W b f2) (hm : behindInMarks .In b = false := by rfl) : PM X Γ W (.Compare a [.In] [b] pos) (e2' (gInA false) f1 f2) := by
  obtain ⟨r, ho, hg⟩ := (c_in (Γ := Γ) hu).ex
  exact pe_wk (pe_either (pe_cmp (pc_din (by omega) h1 h2) hm) (pe_cmpR ho h1 h2 hm)) fun σ H Q h => (tM_sel h).imp (din_ok (n := false) σ H Q) (t_op hg σ H Q)
theorem m_notin {a b : Expr} {pos : Pos} {f1 f2 : EF} (hu : X.A.units + 65 < cLine) (h1 : PM X Γ W a f1) (h2 : PM X Γ W b f2) (hm : behindInMarks .NotIn b = false := by rfl) : PM X Γ W (.Compare a [.NotIn] [b] pos) (e2' (gInA true) f1 f2) := by
  obtain ⟨r, ho, hg⟩ := (c_notin (Γ := Γ) hu).ex
  exact pe_wk (pe_either (pe_cmp (pc_dnotin (by omega) h1 h2) hm) (pe_cmpR ho h1 h2 hm)) fun σ H Q h => (tM_sel h).imp (din_ok (n := true) σ H Q) (t_op hg σ H Q)
/-- a test on a value that is a bool, by its own rule -/
theorem tM_val {f : EF} {σ : L2.St} {H : Hp} {Q : Bool → Hp → Prop} (h : tM (gx X Γ) BR W (bVal f) σ H Q) : tM (gx X Γ) (VR (gx X Γ)) W f σ H (fun x H1 => ∃ c, x = .bl c ∧ Q c H1) := by
  obtain ⟨env, w, er, R, p⟩ := h
  exact ⟨env, w, er, R, p.bind fun x u H v le R r p => rbool_ok R r p⟩
theorem tm_in {a b : Expr} {pos : Pos} {f1 f2 : EF} (hu : X.A.units + 65 < cLine) (h1 : PM X Γ W a f1) (h2 : PM X Γ W b f2) (hm : behindInMarks .In b = false := by rfl) : TM X Γ W (.Compare a [.In] [b] pos) (bVal (e2' (gInA false) f1 f2)) := by
  obtain ⟨r, ho, hg⟩ := (c_in (Γ := Γ) hu).ex
  exact pt_wk (pt_either (pt_cmp (pc_din (by omega) h1 h2) hm) (pt_cmpR ho h1 h2 hm)) fun σ H Q h => (tM_sel (tM_val h)).imp (din_ok (n := false) σ H _) (t_op hg σ H _)
theorem tm_notin {a b : Expr} {pos : Pos} {f1 f2 : EF} (hu : X.A.units + 65 < cLine) (h1 : PM X Γ W a f1) (h2 : PM X Γ W b f2) (hm : behindInMarks .NotIn b = false := by rfl) : TM X Γ W (.Compare a [.NotIn] [b] pos) (bVal (e2' (gInA true) f1 f2)) := by
  obtain ⟨r, ho, hg⟩ := (c_notin (Γ := Γ) hu).ex
  exact pt_wk (pt_either (pt_cmp (pc_dnotin (by omega) h1 h2) hm) (pt_cmpR ho h1 h2 hm)) fun σ H Q h => (tM_sel (tM_val h)).imp (din_ok (n := true) σ H _) (t_op hg σ H _)
/-- d[k] = v -/
def gDput (x y z : Val) (S : Store) : Option Store := match x with
  | .ref i => match S[i]?, keyOf y with
    | some (some (.dct l)), some k => if l.length < 100000 then some (S.set i (some (.dct (kput l k z)))) else none
    | _, _ => none
  | _ => none
theorem gDput_ok {G : Gm} {w : Wd} {H : Hp} {x y z : Val} {v u t : V} {S' : Store} (R : Rep G w H) (rx : VR G w x v) (ry : VR G w y u) (rz : VR G w z t) (e : gDput x y z w.S = some S') :
    ∃ a H', v = .ref a ∧ DPut H a u t H' ∧ Rep G { w with S := S' } H' ∧ Le w { w with S := S' } := by
  unfold gDput at e
  split at e
  · next i =>
    split at e
    · next l k q hk =>
      split at e
      · next hl =>
        cases e
        cases rx
        have kk : ∃ us, H (w.ρ i) = some (.dK us) ∧ PR G w l us := by
          obtain ⟨κ, R⟩ := R
          obtain ⟨us, h, k, r⟩ := R.cell i _ q
          exact ⟨us, h, k, r⟩
        obtain ⟨us, h, pr⟩ := kk
        obtain rfl := keyOf_ok ry hk
        have pr2 := pr.put k rz
        exact ⟨_, _, rfl, DPut.k h (sz_lt (by rw [← pr.len]; exact hl)), R.write q (fun _ _ z => by cases z) (fun _ _ z => by cases z) ⟨_, upd_same, pr2.k, pr2.v⟩, Le.set _⟩
      · cases e
    · cases e
  · cases e
def sDput (fo fk fv : EF) : SF := fun e S => sbind e (fv e S) fun z S => sbind e (fo e S) fun x S => sbind e (fk e S) fun y S => match gDput x y z S with
  | some S' => .nx e S'
  | none => .stuck
theorem ms_dput {o i a : Expr} {p' pos : Pos} {fo fk fv : EF} (hu : X.A.units + 1 < cLine) (ho : PM X Γ W o fo) (hi : PM X Γ W i fk) (hv : PM X Γ W a fv) (hs : swapsWith a (some (.Subscript o i p')) pos.line X.env = pure false := by rfl) :
    SM X Γ W (.Assign [.Subscript o i p'] a pos) (sDput fo fk fv) := by
  refine ps_wk (ps_dput hu ho hi hv hs) fun D σ H ⟨env, w, er, R, p⟩ => ?_
  refine ⟨env, w, er, R, Sst.bind er p fun z u H v l R er rz p => ?_⟩
  refine ⟨env, u, er, R, Sst.bind er p fun x u2 H2 v2 l2 R2 er2 rx p => ?_⟩
  refine ⟨env, u2, er2, R2, Sst.bind er2 p fun y u3 H3 v3 l3 R3 er3 ry p => ?_⟩
  split at p
  · next S' h =>
    obtain ⟨a, H', rfl, dp, R4, le⟩ := gDput_ok R3 (rx.up l3) ry ((rz.up l2).up l3) h
    exact ⟨a, H', rfl, dp, p _ _ σ rfl le R4 (er3.up le)⟩
  · exact p.elim
/-- d[k] += e, numbers -/
def sDaug (fo fk fv : EF) : SF := fun e S => sbind e (fo e S) fun x S => sbind e (fk e S) fun y S => sbind e (gDget x y S) fun z S => sbind e (fv e S) fun t S => match intOf z, intOf t with
  | some i, some j => match gDput x y (.d (.int (i + j))) S with
    | some S' => .nx e S'
    | none => .stuck
  | _, _ => .stuck
theorem gDget_ok {G : Gm} {w : Wd} {H : Hp} {x y : Val} {v u : V} {E : XK} {Q : VK} (R : Rep G w H) (rx : VR G w x v) (ry : VR G w y u) (p : Pst G (VR G) E w (gDget x y w.S) Q) : ∃ a z, v = .ref a ∧ DGet H a u (some z) ∧ Q z H := by
  unfold gDget at p
  split at p
  · next m k h1 h2 =>
    split at p
    · next z hz =>
      obtain ⟨a, us, rfl, ha, pr⟩ := dctOf_ok R rx h1
      obtain rfl := keyOf_ok ry h2
      rcases pr.get k with ⟨e, _⟩ | ⟨x', u', e1, e2, rr⟩
      · rw [e] at hz; cases hz
      · rw [e1] at hz; cases hz
        exact ⟨a, u', rfl, dgetK ha e2, p.here R rr⟩
    · exact p.elim
  · exact p.elim
theorem ms_daug {o i a : Expr} {tp pos : Pos} {fo fk fv : EF} (hu : X.A.units + 1 < cLine) (ho : PM X Γ W o fo) (hi : PM X Γ W i fk) (hv : PM X Γ W a fv)
    (ha : ∀ ov iv new, augStore i ov iv new = (do holding [new, ov, iv] (setItem ov iv new); release [new, ov, iv] []; pure .next) := by intro _ _ _; rfl) : SM X Γ W (.AugAssign (.Subscript o i tp) .Add a pos) (sDaug fo fk fv) := by
  refine ps_wk (ps_daug hu ho hi hv in_add ha) fun D σ H ⟨env, w, er, R, p⟩ => ?_
  refine ⟨env, w, er, R, Sst.bind er p fun x u H v l R er rx p => ?_⟩
  refine ⟨env, u, er, R, Sst.bind er p fun y u2 H2 v2 l2 R2 er2 ry p => ?_⟩
  obtain ⟨a, z, rfl, g, env3, u3, er3, R3, q⟩ := gDget_ok (E := fun c d H => W c d σ H) (Q := fun z H2 => tM (gx X Γ) (VR (gx X Γ)) W fv σ H2 fun y2 H3 => rAdd z y2 H3 fun z H4 => ∃ H5, (∀ a, v = .ref a → DPut H4 a v2 z H5) ∧ D.nx σ H5) R2 (rx.up l2) ry (Sst.bind er2 p fun z u3 H3 v3 l3 R3 er3 rz p => ⟨env, u3, er3, R3, Sst.bind er3 p fun t u4 H4 v4 l4 R4 er4 rt p2 => by
    split at p2
    · next i j hi hj =>
      split at p2
      · next S' h =>
        obtain ⟨a, H', e, dp, R5, le⟩ := gDput_ok R4 (((rx.up l2).up l3).up l4) ((ry.up l3).up l4) (.d (.int (i + j))) h
        refine ⟨i, j, intOf_ok (rz.up l4) hi, intOf_ok rt hj, H', fun a' e' => ?_, p2 _ _ σ rfl le R5 (er4.up le)⟩
        rw [e] at e'; cases e'; exact dp
      · exact p2.elim
    · exact p2.elim⟩)
  refine ⟨a, z, rfl, g, env3, u3, er3, R3, q.imp ?_⟩
  rintro y2 H3 ⟨i, j, e1, e2, H5, k, d⟩
  exact ⟨i, j, e1, e2, H5, k a rfl, d⟩
/-- d.get(k, x) -/
def gDget2 (x y z : Val) (S : Store) : Res Val := match dctOf S x, keyOf y with
  | some l, some k => .ok ((kget l k).getD z) S
  | _, _ => .stuck
def gIsD (x : Val) (S : Store) : Res Val := if (dctOf S x).isSome = true then .ok x S else .stuck
def eGet2 (fo fk fx : EF) : EF := fun e S => rbind (rbind (fo e S) gIsD) fun x S => rbind (fk e S) fun y S => rbind (fx e S) fun z S => gDget2 x y z S
theorem gIsD_ok {G : Gm} {w : Wd} {H : Hp} {x : Val} {v : V} (R : Rep G w H) (rx : VR G w x v) (h : (dctOf w.S x).isSome = true) : ∃ a us, v = .ref a ∧ H a = some (.dK us) := by
  obtain ⟨l, hl⟩ := Option.isSome_iff_exists.mp h
  obtain ⟨a, us, e, ha, _⟩ := dctOf_ok R rx hl
  exact ⟨a, us, e, ha⟩
theorem m_get2 {o i f : Expr} {apos pos : Pos} {fo fk fx : EF} (hu : X.A.units + 1 < cLine) (ho : PM X Γ W o fo) (hi : PM X Γ W i fk) (hx : PM X Γ W f fx) (m : M2 X o "get" apos i f pos := by exact ⟨rfl, rfl, rfl, rfl⟩) :
    PM X Γ W (.Call (.Attribute o "get" apos) [i, f] [] pos) (eGet2 fo fk fx) := by
  refine pe_wk (pe_dget2 hu ho hi hx m) fun σ H Q ⟨env, w, er, R, p⟩ => ?_
  unfold eGet2 at p
  rw [rbind_assoc] at p
  refine ⟨env, w, er, R, p.bind fun x u H v l R r p => ?_⟩
  unfold gIsD at p
  split at p
  · next hd =>
    obtain ⟨a, us, rfl, ha⟩ := gIsD_ok R r hd
    change Pst _ _ _ u (rbind (fk env u.S) fun y S => _) _ at p
    refine ⟨a, rfl, .inl ⟨us, .inl ha⟩, env, u, er.up l, R, p.bind fun y u2 H2 v2 l2 R2 r2 p => ?_⟩
    refine ⟨env, u2, (er.up l).up l2, R2, p.bind fun z u3 H3 v3 l3 R3 r3 p => ?_⟩
    unfold gDget2 at p
    split at p
    · next m k h1 h2 =>
      obtain ⟨a', us', e, ha', pr⟩ := dctOf_ok R3 ((r.up l2).up l3) h1
      cases e
      obtain rfl := keyOf_ok (r2.up l3) h2
      refine ⟨valV us' k, dgetK ha' rfl, ?_⟩
      rcases pr.get k with ⟨e, e'⟩ | ⟨x', u', e1, e2, rr⟩
      · rw [e] at p; rw [e']; exact p.here R3 r3
      · rw [e1] at p; rw [e2]; exact p.here R3 rr
    · exact p.elim
  · exact p.elim
/-- d.pop(k), there -/
def gPop (x y : Val) (S : Store) : Res Val := match x with
  | .ref i => match S[i]?, keyOf y with
    | some (some (.dct l)), some k => match kget l k with
      | some z => .ok z (S.set i (some (.dct (kdrop l k))))
      | none => .stuck
    | _, _ => .stuck
  | _ => .stuck
def ePop (fo fk : EF) : EF := fun e S => rbind (rbind (fo e S) gIsD) fun x S => rbind (fk e S) fun y S => gPop x y S
theorem m_pop {o i : Expr} {apos pos : Pos} {fo fk : EF} (ho : PM X Γ W o fo) (hi : PM X Γ W i fk) (m : M1 X o "pop" apos i pos := by exact ⟨rfl, rfl, rfl, rfl⟩) : PM X Γ W (.Call (.Attribute o "pop" apos) [i] [] pos) (ePop fo fk) := by
  refine pe_wk (pe_dpop1 ho hi m) fun σ H Q ⟨env, w, er, R, p⟩ => ?_
  unfold ePop at p
  rw [rbind_assoc] at p
  refine ⟨env, w, er, R, p.bind fun x u H v l R r p => ?_⟩
  unfold gIsD at p
  split at p
  · next hd =>
    obtain ⟨a, us, rfl, ha⟩ := gIsD_ok R r hd
    change Pst _ _ _ u (rbind (fk env u.S) fun y S => _) _ at p
    refine ⟨a, rfl, .inl ⟨us, .inl ha⟩, env, u, er.up l, R, p.bind fun y u2 H2 v2 l2 R2 r2 p2 => ?_⟩
    unfold gPop at p2
    split at p2
    · next i =>
      split at p2
      · next m k q hk =>
        split at p2
        · next z hz =>
          have r' := r.up l2
          have ea : u2.ρ i = a := by cases r'; rfl
          have kk : ∃ us, H2 (u2.ρ i) = some (.dK us) ∧ PR (gx X Γ) u2 m us := by
            obtain ⟨κ, R⟩ := R2
            obtain ⟨us, h, k, r⟩ := R.cell i _ q
            exact ⟨us, h, k, r⟩
          obtain ⟨us', h, pr⟩ := kk
          obtain rfl := keyOf_ok r2 hk
          rcases pr.get k with ⟨e, e'⟩ | ⟨x', u', e1, e2, rr⟩
          · rw [e] at hz; cases hz
          · rw [e1] at hz; cases hz
            have pr2 := pr.drop k
            refine ⟨us', k, u', ea ▸ h, rfl, e2, ?_⟩
            rw [← ea]
            exact p2 { u2 with S := u2.S.set i (some (.dct (kdrop m k))) } _ _ rfl (Le.set _) (R2.write (c' := .dct (kdrop m k)) q (fun _ _ z => by cases z) (fun _ _ z => by cases z) ⟨_, upd_same, pr2.k, pr2.v⟩) (rr.up (Le.set _))
        · exact p2.elim
      · exact p2.elim
    · exact p2.elim
  · exact p.elim
/-- {} -/
def eDct0 : EF := fun _ S => .ok (.ref S.length) (S ++ [some (.dct [])])
theorem m_dct0 {pos : Pos} : PM X Γ W (.Dict [] [] pos) eDct0 := pe_wk pe_dnewK fun σ H Q ⟨env, w, er, R, p⟩ a ha =>
  p (w.push a (.dct [])) _ _ rfl Le.push (R.alloc ha (fun _ _ z => by cases z) ⟨[], upd_same, rfl, .nil⟩) VR.new
/-- {k: v, ..} -/
abbrev DFs := List (EF × EF)
def dPairs : DFs → Envr → Store → Res (List (Val × Val))
  | [], _, S => .ok [] S
  | (fk, fv) :: r, e, S => rbind (fk e S) fun x S => rbind (fv e S) fun y S => rbind (dPairs r e S) fun l S => .ok ((x, y) :: l) S
def keysOf : List (Val × Val) → Option (List (Key × Val))
  | [] => some []
  | (x, y) :: r => match keyOf x, keysOf r with
    | some k, some l => some ((k, y) :: l)
    | _, _ => none
def mergeG (l more : List (Key × Val)) : List (Key × Val) := more.foldl (fun acc p => kput acc p.1 p.2) l
def eDct (live : Bool) (ps : DFs) : EF := fun e S => rbind (dPairs ps e S) fun l S => match keysOf l with
  | some m => if m.length ≤ 15 then (if live = true then .ok (.ref S.length) (S ++ [some (.dct (mergeG [] m))]) else match dats ((mergeG [] m).map (·.2)) with
    | some ds => .ok (.d (.dct ((mergeG [] m).map (·.1)) ds)) S
    | none => .stuck) else .stuck
  | none => .stuck
def DM (X : Cx) (Γ : Gr) (W : WX) (pos : Pos) (ks : List (Option Expr)) (vs : List Expr) (ps : DFs) : Prop := PPs X pos ks vs (ps.map fun p => (tM (gx X Γ) (VR (gx X Γ)) W p.1, tM (gx X Γ) (VR (gx X Γ)) W p.2))
theorem md_nil {pos : Pos} : DM X Γ W pos [] [] [] := pps_nil
theorem md_cons {pos : Pos} {k v : Expr} {ks : List (Option Expr)} {vs : List Expr} {fk fv : EF} {ps : DFs} (hk : PM X Γ W k fk) (hv : PM X Γ W v fv) (hr : DM X Γ W pos ks vs ps) : DM X Γ W pos (some k :: ks) (v :: vs) ((fk, fv) :: ps) := pps_cons hk hv hr
inductive PV (G : Gm) (w : Wd) : List (Val × Val) → List (V × V) → Prop
  | nil : PV G w [] []
  | cons {x y : Val} {v u : V} {l : List (Val × Val)} {us : List (V × V)} : VR G w x v → VR G w y u → PV G w l us → PV G w ((x, y) :: l) ((v, u) :: us)
theorem PV.up {G : Gm} {w w' : Wd} (le : Le w w') {l : List (Val × Val)} {us : List (V × V)} (h : PV G w l us) : PV G w' l us := by
  induction h with
  | nil => exact .nil
  | cons a b _ ih => exact .cons (a.up le) (b.up le) ih
theorem PV.keys {G : Gm} {w : Wd} {l : List (Val × Val)} {us : List (V × V)} (h : PV G w l us) : ∀ {m : List (Key × Val)}, keysOf l = some m → ∃ kvs : List (Key × V), us = kvs.map (fun kv => (kV kv.1, kv.2)) ∧ PR G w m kvs := by
  induction h with
  | nil => intro m e; cases e; exact ⟨[], rfl, .nil⟩
  | @cons x y v u l us a b _ ih =>
    intro m e
    unfold keysOf at e
    split at e
    · next k l' hk hl =>
      cases e
      obtain ⟨kvs, rfl, pr⟩ := ih hl
      obtain rfl := keyOf_ok a hk
      exact ⟨(k, u) :: kvs, rfl, .cons b pr⟩
    · cases e
theorem PR.merge {G : Gm} {w : Wd} {m : List (Key × Val)} {kvs : List (Key × V)} (h : PR G w m kvs) : ∀ {l : List (Key × Val)} {us : List (Key × V)}, PR G w l us → PR G w (mergeG l m) (mergeK us kvs) :=
  h.ind (P := fun m kvs => ∀ {l us}, PR G w l us → PR G w (mergeG l m) (mergeK us kvs)) (fun h => h) fun a x u l us hv _ ih {l' us'} h' => ih (h'.put a hv)
theorem pairs_ok {σ : L2.St} {env : Envr} : ∀ {ps : DFs} {w : Wd} {H : Hp} {Q : List (V × V) → Hp → Prop}, ER (gx X Γ) w env σ → Rep (gx X Γ) w H → Pst (gx X Γ) (PV (gx X Γ)) (fun c d H => W c d σ H) w (dPairs ps env w.S) Q →
    tPairs (ps.map fun p => (tM (gx X Γ) (VR (gx X Γ)) W p.1, tM (gx X Γ) (VR (gx X Γ)) W p.2)) σ H Q
  | [], _, _, _, er, R, p => p.here R .nil
  | (fk, fv) :: ps, w, H, Q, er, R, p => by
    unfold dPairs at p
    refine ⟨env, w, er, R, p.bind fun x u H v l R r p => ?_⟩
    refine ⟨env, u, er.up l, R, p.bind fun y u2 H v2 l2 R r2 p => ?_⟩
    exact pairs_ok ((er.up l).up l2) R (p.bind fun m u3 H us l3 R r3 p => p.here R (.cons ((r.up l2).up l3) (r2.up l3) r3))
theorem m_dct {b : Bool} {pos : Pos} {ks : List (Option Expr)} {vs : List Expr} {ps : DFs} (h : DM X Γ W pos ks vs ps) (ha : ks.all (·.isSome) = true) (hl : ks.length = vs.length) (h0 : ks ≠ []) (h15 : ks.length ≤ 15) : PM X Γ W (.Dict ks vs pos) (eDct b ps) := by
  refine pe_wk (pe_disp h ha hl h0 h15) fun σ H Q ⟨env, w, er, R, p⟩ D hD => ?_
  have R0 : Rep (gx X Γ) { w with O := upd w.O D (.dK []) } (upd H D (.dK [])) := R.putO hD
  have nO : w.O D = none := by
    cases q : w.O D with
    | none => rfl
    | some o =>
      obtain ⟨κ, R⟩ := R
      have := R.os _ _ q; rw [hD] at this; cases this
  have lx : Lx w { w with O := upd w.O D (.dK []) } := ⟨Ex.refl _, Nat.le_refl _, fun _ _ => rfl⟩
  refine pairs_ok (w := { w with O := upd w.O D (.dK []) }) (er.upx lx) R0 ?_
  unfold eDct at p
  cases hp : dPairs ps env w.S with
  | stuck => rw [hp] at p; exact p
  | exc x S =>
    rw [hp] at p
    intro w' H' cls d e l R' xr
    have le : Le w { w' with O := w.O } := ⟨l.F, rfl, l.X, l.n, l.ρ⟩
    exact p { w' with O := w.O } H' cls d e le (R'.unO (by rw [l.O]; exact Ex.new nO)) xr
  | ok l S =>
    rw [hp] at p
    intro w' H' us e lw R' pv
    have le : Le w { w' with O := w.O } := ⟨lw.F, rfl, lw.X, lw.n, lw.ρ⟩
    have R2 := R'.unO (O0 := w.O) (by rw [lw.O]; exact Ex.new nO)
    have hOD : w'.O D = some (.dK []) := by rw [lw.O]; exact upd_same
    have hHD : H' D = some (.dK []) := by obtain ⟨κ, R'⟩ := R'; exact R'.os _ _ hOD
    have p2 := Pst.later le p
    subst e
    dsimp only [rbind] at p2
    split at p2
    · next m hm =>
      split at p2
      · next h15 =>
        obtain ⟨kvs, rfl, pr⟩ := pv.keys hm
        have prm := pr.merge (l := []) (us := []) .nil
        refine ⟨hHD, kvs, rfl, by rw [← pr.len]; exact h15, ?_⟩
        -- D becomes what it is to be
        have R3 := R'.otherW hOD rfl (.dK (mergeK [] kvs))
        have R4 := R3.unO (O0 := w.O) (by show Ex w.O (upd w'.O D _); rw [lw.O, upd_upd]; exact Ex.new nO)
        have fD : w'.F D = none := by obtain ⟨κ, R'⟩ := R'; exact R'.of _ _ hOD
        have lD : ∀ i, i < w'.S.length → w'.ρ i ≠ D := fun i hi z => by
          obtain ⟨κ, R'⟩ := R'
          have := R'.ol i hi; rw [z, hOD] at this; cases this
        have prl : PR (gx X Γ) { w' with O := w.O } (mergeG [] m) (mergeK [] kvs) := ⟨prm.k, prm.v.up0 (w := w') (w' := { w' with O := w.O }) (Ex.refl _) (Nat.le_refl _) fun _ _ => rfl⟩
        cases b with
        | true =>
          rw [if_pos rfl] at p2
          refine p2 (Wd.push { w' with O := w.O } D (.dct (mergeG [] m))) _ _ rfl Le.push (R4.adopt ⟨_, upd_same⟩ fD nO lD (fun κ K j id l hc b hb z => ?_) (fun _ _ z => by cases z) ⟨_, upd_same, prl.k, prl.v⟩) VR.new
          have hc' : live w'.S j (.clo id l) := hc
          obtain ⟨v, hv, hn⟩ := K.kH hc' hb
          subst z
          rw [upd_same] at hv
          cases hv
          cases hn
        | false =>
          rw [if_neg (by simp)] at p2
          split at p2
          · next ds hds =>
            have leD : Le { w' with O := w.O } (Wd.add { w' with O := w.O } D (.dK (mergeK [] kvs))) := Le.add fD
            refine p2 (Wd.add { w' with O := w.O } D (.dK (mergeK [] kvs))) _ _ rfl leD (R4.addF upd_same fD (fun i c hc z => lD i (live.lt (S := _) hc) z.symm) rfl nO) ?_
            exact .d (.dct upd_same prl.k ((prl.v.dats hds).up leD.F))
          · exact p2.elim
      · exact p2.elim
    · exact p2.elim
end
end Z
set_option Elab.async false
set_option linter.all false
set_option maxRecDepth 100000
set_option maxHeartbeats 4000000
namespace Z
open PySem L2 Evl NdefX LamX
section
variable {X : Cx} {Γ : Gr} {W : WX}
/-! ## methods of lists -/
/-- a method's rule, by values; what it does to a store -/
def MtOk (Γ : Gr) (X : Cx) (r : V → List V → Hp → VK → Prop) (g : Val → List Val → Store → Res Val) : Prop := ∀ (w : Wd) (H : Hp) (x : Val) (l : List Val) (v : V) (us : List V) (E : XK) (Q : VK), Rep (gx X Γ) w H → VR (gx X Γ) w x v → VRs (gx X Γ) w l us → Pst (gx X Γ) (VR (gx X Γ)) E w (g x l w.S) Q → r v us H Q
def gIsL (x : Val) (S : Store) : Res Val := if (lstOf S x).isSome = true then .ok x S else .stuck
def eMt (g : Val → List Val → Store → Res Val) (fo : EF) (fa : AF) : EF := fun e S => rbind (rbind (fo e S) gIsL) fun x S => rbind (fa e S) fun l S => g x l S
theorem m_bm {o a : Expr} {as : List Expr} {name : Str} {apos pos : Pos} {id : String} {r : V → List V → Hp → VK → Prop} {g : Val → List Val → Store → Res Val} {fo : EF} {fa : AF} (slot : Slot "list" name id) (hty : typeOf (.builtin id) = pure (.type "method_descriptor"))
    (hm : MtR X id r) (hg : MtOk Γ X r g) (ho : PM X Γ W o fo) (ha : AM X Γ W (a :: as) fa) (hbase : attributeBase o name X.env (eval o X.env) = eval o X.env := by rfl)
    (hfew : ((backTo pos (starEach (a :: as) X.env)).all (fun x => !x.1) && (backToKw pos (keywordEach [] X.env)).all (fun x => x.1.isSome)
      && decide ((a :: as).length + ([] : List Keyword).length + (if ([] : List Keyword).isEmpty then 0 else 1) < 30)) = true := by rfl)
    (hline : (apos.endLine == pos.line) = true := by rfl) (hs : starEach (a :: as) X.env = (false, eval a X.env) :: starEach as X.env := by rfl) (hplain : (backTo pos (starEach as X.env)).any (·.1) = false := by rfl) :
    PM X Γ W (.Call (.Attribute o name apos) (a :: as) [] pos) (eMt g fo fa) := by
  refine pe_wk (pe_bm PySem.F.plainAttrs_list slot hty hm ho ha hbase hfew hline hs hplain) fun σ H Q ⟨env, w, er, R, p⟩ => ?_
  unfold eMt at p
  rw [rbind_assoc] at p
  refine ⟨env, w, er, R, p.bind fun x u H v l R r p => ?_⟩
  unfold gIsL at p
  split at p
  · next hd =>
    obtain ⟨m, hm⟩ := Option.isSome_iff_exists.mp hd
    obtain ⟨b, us, rfl, hb, _⟩ := lstOf_ok R r hm
    change Pst _ _ _ u (rbind (fa env u.S) fun y S => _) _ at p
    refine ⟨.inl ⟨rfl, us, sq_of hb⟩, env, u, er.up l, R, p.bind fun m u2 H2 vs l2 R2 r2 p => ?_⟩
    exact hg u2 H2 x m _ vs _ Q R2 (r.up l2) r2 p
  · exact p.elim
/-- the cell of a list -/
def cellL (S : Store) : Val → Option (Nat × List Val)
  | .ref i => match S[i]? with
    | some (some (.lst l)) => some (i, l)
    | _ => none
  | _ => none
theorem cellL_ok {G : Gm} {w : Wd} {H : Hp} {x : Val} {v : V} {i : Nat} {l : List Val} (R : Rep G w H) (r : VR G w x v) (e : cellL w.S x = some (i, l)) : ∃ us, v = .ref (w.ρ i) ∧ H (w.ρ i) = some (.lst us) ∧ VRs G w l us ∧
    ∀ (m : List Val) (vs : List V), VRs G w m vs → Rep G { w with S := w.S.set i (some (.lst m)) } (upd H (w.ρ i) (.lst vs)) ∧ Le w { w with S := w.S.set i (some (.lst m)) } := by
  unfold cellL at e
  split at e
  · next j =>
    split at e
    · next m q =>
      cases e
      cases r
      have k : ∃ us, H (w.ρ i) = some (.lst us) ∧ VRs G w l us := by
        obtain ⟨κ, R⟩ := R
        obtain ⟨us, h, r⟩ := R.cell i _ q
        exact ⟨us, h, r⟩
      obtain ⟨us, h, r⟩ := k
      exact ⟨us, rfl, h, r, fun m' vs' r' => ⟨R.write q (fun _ _ z => by cases z) (fun _ _ z => by cases z) ⟨_, upd_same, r'⟩, Le.set _⟩⟩
    · cases e
  · cases e
def rnon (S : Store) : Res Val := .ok (.d .non) S
def gAppend (x : Val) (l : List Val) (S : Store) : Res Val := match cellL S x, l with
  | some (i, m), [y] => if m.length < 100000 then rnon (S.set i (some (.lst (m ++ [y])))) else .stuck
  | _, _ => .stuck
theorem gAppend_ok : MtOk Γ X rAppend gAppend := fun w H x l v us E Q R rx rl p => by
  unfold gAppend at p
  split at p
  · next i m y h =>
    split at p
    · next hm =>
      obtain ⟨vs, rfl, hv, rv, k⟩ := cellL_ok R rx h
      cases rl with | cons ry rn => ?_
      cases rn
      obtain ⟨R2, le⟩ := k _ _ (rv.app (.cons ry .nil))
      exact ⟨_, vs, _, rfl, rfl, hv, sz_lt (by rw [← rv.len]; exact hm), p _ _ _ rfl le R2 (.d .non)⟩
    · exact p.elim
  · exact p.elim
theorem m_append {o a : Expr} {apos pos : Pos} {fo : EF} {fa : AF} (ho : PM X Γ W o fo) (ha : AM X Γ W [a] fa) (hbase : attributeBase o "append" X.env (eval o X.env) = eval o X.env := by rfl)
    (hfew : ((backTo pos (starEach [a] X.env)).all (fun x => !x.1) && (backToKw pos (keywordEach [] X.env)).all (fun x => x.1.isSome) && decide (([a] : List Expr).length + ([] : List Keyword).length + (if ([] : List Keyword).isEmpty then 0 else 1) < 30)) = true := by rfl)
    (hline : (apos.endLine == pos.line) = true := by rfl) (hs : starEach [a] X.env = (false, eval a X.env) :: starEach [] X.env := by rfl) (hplain : (backTo pos (starEach [] X.env)).any (·.1) = false := by rfl) :
    PM X Γ W (.Call (.Attribute o "append" apos) [a] [] pos) (eMt gAppend fo fa) := m_bm PySem.F.slot_list_append PySem.F.type_list_append mt_append gAppend_ok ho ha hbase hfew hline hs hplain
def gExtend (x : Val) (l : List Val) (S : Store) : Res Val := match cellL S x, l with
  | some (i, m), [y] => match lstOf S y with
    | some n => if m.length + n.length ≤ 100000 then rnon (S.set i (some (.lst (m ++ n)))) else .stuck
    | none => .stuck
  | _, _ => .stuck
theorem gExtend_ok : MtOk Γ X rExtend gExtend := fun w H x l v us E Q R rx rl p => by
  unfold gExtend at p
  split at p
  · next i m y h =>
    split at p
    · next n hn =>
      split at p
      · next hm =>
        obtain ⟨vs, rfl, hv, rv, k⟩ := cellL_ok R rx h
        cases rl with | cons ry rn => ?_
        cases rn
        obtain ⟨b, zs, rfl, hz, rz⟩ := lstOf_ok R ry hn
        obtain ⟨R2, le⟩ := k _ _ (rv.app rz)
        exact ⟨_, b, vs, zs, rfl, rfl, hv, hz, sz_of (by rw [← rv.len, ← rz.len]; exact hm), p _ _ _ rfl le R2 (.d .non)⟩
      · exact p.elim
    · exact p.elim
  · exact p.elim
def gInsert (x : Val) (l : List Val) (S : Store) : Res Val := match cellL S x, l with
  | some (i, m), [k, y] => match intOf k with
    | some n => if m.length < 100000 ∧ 0 ≤ n ∧ n < 2 ^ 63 then rnon (S.set i (some (.lst (m.take n.toNat ++ [y] ++ m.drop n.toNat)))) else .stuck
    | none => .stuck
  | _, _ => .stuck
theorem gInsert_ok : MtOk Γ X (fun x vs H Q => ∃ (l : Addr) (xs : List V) (i : Int) (y : V), x = .ref l ∧ vs = [.int i, y] ∧ H l = some (.lst xs) ∧ xs.length < sizeLine ∧ 0 ≤ i ∧ i < 2 ^ 63 ∧
    Q .non (upd H l (.lst (xs.take i.toNat ++ [y] ++ xs.drop i.toNat)))) gInsert := fun w H x l v us E Q R rx rl p => by
  unfold gInsert at p
  split at p
  · next i m k y h =>
    split at p
    · next n hn =>
      split at p
      · next hm =>
        obtain ⟨vs, rfl, hv, rv, kk⟩ := cellL_ok R rx h
        cases rl with | cons rk rl => ?_
        cases rl with | cons ry rn => ?_
        cases rn
        obtain rfl := intOf_ok rk hn
        obtain ⟨R2, le⟩ := kk _ _ (((rv.take n.toNat).app (.cons ry .nil)).app (rv.drop n.toNat))
        exact ⟨_, vs, n, _, rfl, rfl, hv, sz_lt (by rw [← rv.len]; exact hm.1), hm.2.1, hm.2.2, p _ _ _ rfl le R2 (.d .non)⟩
      · exact p.elim
    · exact p.elim
  · exact p.elim
def numsOf : List Val → Option (List Int)
  | [] => some []
  | x :: r => match intOf x, numsOf r with
    | some i, some l => some (i :: l)
    | _, _ => none
theorem nums_ok {G : Gm} {w : Wd} : ∀ {l : List Val} {us : List V} {ns : List Int}, VRs G w l us → numsOf l = some ns → us = ns.map V.int ∧ l = ns.map fun n => .d (.int n)
  | [], _, _, .nil, e => by cases e; exact ⟨rfl, rfl⟩
  | x :: r, _, _, .cons h t, e => by
    unfold numsOf at e
    split at e
    · next i m h1 h2 =>
      cases e
      obtain ⟨e1, e2⟩ := nums_ok t h2
      have e3 := intOf_ok h h1
      refine ⟨by rw [e3, e1]; rfl, ?_⟩
      rw [e2]
      unfold intOf at h1
      split at h1
      · cases h1; rfl
      · cases h1
    · cases e
theorem nums_map (ns : List Int) : numsOf (ns.map fun n => .d (.int n)) = some ns := by
  induction ns with
  | nil => rfl
  | cons n r ih => simp only [List.map_cons, numsOf, intOf, ih]
/-- the first place of a number -/
def posOf (k : Int) (ns : List Int) : Option Nat := ns.findIdx? (· == k)
theorem posOf_some {k : Int} {ns : List Int} {j : Nat} (h : posOf k ns = some j) : ns[j]? = some k ∧ ∀ m, m < j → ns[m]? ≠ some k := by
  unfold posOf at h
  rw [List.findIdx?_eq_some_iff_getElem] at h
  obtain ⟨hl, h1, h2⟩ := h
  refine ⟨by rw [List.getElem?_eq_getElem hl]; simpa using h1, fun m hm e => ?_⟩
  have := h2 m hm
  rw [List.getElem?_eq_getElem (by omega)] at e
  simp at e
  simp [e] at this
def gRemove (x : Val) (l : List Val) (S : Store) : Res Val := match cellL S x, l with
  | some (i, m), [y] => match intOf y, numsOf m with
    | some k, some ns => match posOf k ns with
      | some j => rnon (S.set i (some (.lst ((ns.eraseIdx j).map fun n => .d (.int n)))))
      | none => .stuck
    | _, _ => .stuck
  | _, _ => .stuck
theorem VRs.nums {G : Gm} {w : Wd} : ∀ ns : List Int, VRs G w (ns.map fun n => .d (.int n)) (ns.map V.int)
  | [] => .nil
  | n :: r => .cons (.d (.int n)) (VRs.nums r)
theorem gRemove_ok : MtOk Γ X rRemI gRemove := fun w H x l v us E Q R rx rl p => by
  unfold gRemove at p
  split at p
  · next i m y h =>
    split at p
    · next k ns hk hns =>
      split at p
      · next j hj =>
        obtain ⟨vs, rfl, hv, rv, kk⟩ := cellL_ok R rx h
        cases rl with | cons ry rn => ?_
        cases rn
        obtain rfl := intOf_ok ry hk
        obtain ⟨rfl, -⟩ := nums_ok rv hns
        obtain ⟨h1, h2⟩ := posOf_some hj
        obtain ⟨R2, le⟩ := kk _ _ (VRs.nums (ns.eraseIdx j))
        exact ⟨_, ns, k, j, rfl, rfl, hv, h1, h2, p _ _ _ rfl le R2 (.d .non)⟩
      · exact p.elim
    · exact p.elim
  · exact p.elim
def gIndex (x : Val) (l : List Val) (S : Store) : Res Val := match lstOf S x, l with
  | some m, [y] => match intOf y, numsOf m with
    | some k, some ns => match posOf k ns with
      | some j => okd (.int (j : Nat)) S
      | none => .stuck
    | _, _ => .stuck
  | _, _ => .stuck
theorem gIndex_ok : MtOk Γ X (rIndex X.K) gIndex := fun w H x l v us E Q R rx rl p => by
  unfold gIndex at p
  split at p
  · next m y h =>
    split at p
    · next k ns hk hns =>
      split at p
      · next j hj =>
        obtain ⟨a, vs, rfl, hv, rv⟩ := lstOf_ok R rx h
        cases rl with | cons ry rn => ?_
        cases rn
        obtain rfl := intOf_ok ry hk
        obtain ⟨rfl, -⟩ := nums_ok rv hns
        obtain ⟨h1, h2⟩ := posOf_some hj
        refine ⟨a, _, .int k, j, .int k, rfl, rfl, sq_of hv, rfl, ?_, by simp [h1], by simp [eqV], fun q z hq hz => ?_, okd_here R (.int _) p⟩
        · rw [List.all_eq_true]
          intro z hz
          obtain ⟨n, _, rfl⟩ := List.mem_map.mp hz
          rfl
        · rw [List.getElem?_map] at hz
          cases e : ns[q]? with
          | none => rw [e] at hz; cases hz
          | some n =>
            rw [e] at hz
            cases hz
            have := h2 q hq
            rw [e] at this
            have nk : n ≠ k := fun z => this (by rw [z])
            simp [eqV, nk]
      · exact p.elim
    · exact p.elim
  · exact p.elim
/-! ## built-in classes and defs, by values -/
def ClOk (Γ : Gr) (X : Cx) (r : List V → Hp → VK → Prop) (g : List Val → Store → Res Val) : Prop := ∀ (w : Wd) (H : Hp) (l : List Val) (us : List V) (E : XK) (Q : VK), Rep (gx X Γ) w H → VRs (gx X Γ) w l us → Pst (gx X Γ) (VR (gx X Γ)) E w (g l w.S) Q → r us H Q
def eB (g : List Val → Store → Res Val) (fa : AF) : EF := fun e S => rbind (fa e S) g
theorem t_B {r : List V → Hp → VK → Prop} {g : List Val → Store → Res Val} {fa : AF} (hg : ClOk Γ X r g) : ∀ σ H Q, tM (gx X Γ) (VR (gx X Γ)) W (eB g fa) σ H Q → tCB r (tM (gx X Γ) (VRs (gx X Γ)) W fa) σ H Q := fun σ H Q ⟨env, w, er, R, p⟩ =>
  ⟨env, w, er, R, p.bind fun l u H us le R r p => hg u H l us _ Q R r p⟩
theorem CallR.or {f : Value} {r r' : List V → Hp → VK → Prop} (h : CallR X f r) (h' : CallR X f r') : CallR X f (fun xs H Q => r xs H Q ∨ r' xs H Q) := by
  intro pins s σ H xs us Q I rx q
  rcases q with q | q
  · exact h pins s σ H xs us Q I rx q
  · exact h' pins s σ H xs us Q I rx q
theorem m_callTy {x : Str} {a : Expr} {as : List Expr} {p pos : Pos} {T : String} {r : List V → Hp → VK → Prop} {g : List Val → Store → Res Val} {fa : AF} (hc : CallR X (.type T) r) (hg : ClOk Γ X r g) (hgl : Gl X x) (hm : X.mg x = none) (hv : bootBuiltins x = some (.type T)) (ha : AM X Γ W (a :: as) fa)
    (hn : x ≠ "__name__" := by decide) (hd : (x == ("__debug__" : Str)) = false := by decide) (he : starEach (a :: as) X.env = (false, eval a X.env) :: starEach as X.env := by rfl) (hpl : (backTo pos (starEach as X.env)).any (·.1) = false := by rfl) :
    PM X Γ W (.Call (.Name x p) (a :: as) [] pos) (eB g fa) := pe_wk (pe_callTy hc hgl hm hv ha hn hd he hpl) (t_B hg)
theorem m_callB {x : Str} {a : Expr} {as : List Expr} {p pos : Pos} {T : String} {r : List V → Hp → VK → Prop} {g : List Val → Store → Res Val} {fa : AF} (hc : CallR X (.builtin T) r) (hg : ClOk Γ X r g) (hgl : Gl X x) (hm : X.mg x = none) (hv : bootBuiltins x = some (.builtin T)) (ha : AM X Γ W (a :: as) fa)
    (hn : x ≠ "__name__" := by decide) (hd : (x == ("__debug__" : Str)) = false := by decide) (he : starEach (a :: as) X.env = (false, eval a X.env) :: starEach as X.env := by rfl) (hpl : (backTo pos (starEach as X.env)).any (·.1) = false := by rfl) :
    PM X Γ W (.Call (.Name x p) (a :: as) [] pos) (eB g fa) := pe_wk (pe_callB hc hgl hm hv ha hn hd he hpl) (t_B hg)
/-- list(x) -/
def gList (live : Bool) (l : List Val) (S : Store) : Res Val := match l with
  | [x] => match seqOf S x with
    | some m => mkL live m S
    | none => .stuck
  | _ => .stuck
theorem gList_ok {b : Bool} : ClOk Γ X (fun xs H Q => ∃ p ys, xs = [.ref p] ∧ (SqL X.K H p ys ∨ SqT X.K H p ys) ∧ ∀ l, H l = none → Q (.ref l) (upd H l (.lst ys))) (gList b) := fun w H l us E Q R r p => by
  unfold gList at p
  split at p
  · next x =>
    split at p
    · next m h =>
      cases r with | cons rx rn => ?_
      cases rn
      obtain ⟨a, vs, rfl, hs, rv⟩ := seqOf_ok R rx h
      exact ⟨a, vs, rfl, hs, mkL_ok R rv p⟩
    · exact p.elim
  · exact p.elim
/-- tuple(x) -/
def gTuple (l : List Val) (S : Store) : Res Val := match l with
  | [x] => match lstOf S x with
    | some m => .ok (mkTup m) S
    | none => .stuck
  | _ => .stuck
theorem gTuple_ok : ClOk Γ X (fun xs H Q => ∃ p ys, xs = [.ref p] ∧ ((SqL X.K H p ys ∧ ∀ l, H l = none → Q (.ref l) (upd H l (.tup ys))) ∨ (SqT X.K H p ys ∧ Q (.ref p) H))) gTuple := fun w H l us E Q R r p => by
  unfold gTuple at p
  split at p
  · next x =>
    split at p
    · next m h =>
      cases r with | cons rx rn => ?_
      cases rn
      obtain ⟨a, vs, rfl, hs, rv⟩ := lstOf_ok R rx h
      exact ⟨a, vs, rfl, .inl ⟨sq_of hs, fun q hq => p (w.add q (.tup vs)) _ _ rfl (Le.add (R.noF hq)) (R.new hq) (VR.mkTup (st_of upd_same) (rv.up (Le.add (R.noF hq))))⟩⟩
    · exact p.elim
  · exact p.elim
/-- int(x): a bool, a number, a text -/
def gToInt (l : List Val) (S : Store) : Res Val := match l with
  | [.d (.int i)] => okd (.int i) S
  | [.d (.bl b)] => okd (.int (if b then 1 else 0)) S
  | [.d (.str s)] => match PySem.intText? s with
    | some n => if s.length ≤ 640 then okd (.int n) S else .stuck
    | none => .stuck
  | _ => .stuck
theorem gToInt_ok : ClOk Γ X (fun xs H Q => ((∃ i, xs = [V.int i] ∧ Q (.int i) H) ∨ ∃ k, xs = [V.bl k] ∧ Q (.int (if k then 1 else 0)) H) ∨ ∃ a n, xs = [.str a] ∧ PySem.intText? a = some n ∧ a.length ≤ 640 ∧ Q (.int n) H) gToInt := fun w H l us E Q R r p => by
  unfold gToInt at p
  split at p
  · cases r with | cons rx rn => cases rn; cases rx with | d h => cases h; exact .inl (.inl ⟨_, rfl, okd_here R (.int _) p⟩)
  · cases r with | cons rx rn => cases rn; cases rx with | d h => cases h; exact .inl (.inr ⟨_, rfl, okd_here R (.int _) p⟩)
  · split at p
    · next n hn =>
      split at p
      · next hl => cases r with | cons rx rn => cases rn; cases rx with | d h => cases h; exact .inr ⟨_, n, rfl, hn, hl, okd_here R (.int _) p⟩
      · exact p.elim
    · exact p.elim
  · exact p.elim
/-- min(a, b) -/
def gMin (l : List Val) (S : Store) : Res Val := match l with
  | [.d (.int i), .d (.int j)] => okd (.int (if j < i then j else i)) S
  | _ => .stuck
theorem gMin_ok : ClOk Γ X (fun xs H Q => ∃ i j, xs = [.int i, .int j] ∧ Q (.int (if j < i then j else i)) H) gMin := fun w H l us E Q R r p => by
  unfold gMin at p
  split at p
  · cases r with | cons rx rn => cases rn with | cons ry rn => cases rn; cases rx with | d h => cases ry with | d k => cases h; cases k; exact ⟨_, _, rfl, okd_here R (.int _) p⟩
  · exact p.elim
/-! ## names changed, things unpacked -/
/-- x += e, numbers -/
def sAug (i : Nat) (op : Int → Int → Int) (f : EF) : SF := fun e S => match e[i]? with
  | some (some x) => sbind e (f e S) fun y S => match intOf x, intOf y with
    | some a, some b => .nx (e.set i (some (.d (.int (op a b))))) S
    | _, _ => .stuck
  | _ => .stuck
theorem ms_aug {i : Nat} {x : Str} {a : Expr} {op : Operator} {pos' pos : Pos} {f : EF} {fo : Int → Int → Int} (hN : X.N.Nodup) (hi : X.N[i]? = some x) (hx : Loc X.env.scope x) (h : PM X Γ W a f) (ho : PIp X op (ipI fo))
    (hf : X.fn x = true ∨ X.env.scope.names.lookup x = some .local := by first | exact .inl rfl | exact .inr rfl | assumption) : SM X Γ W (.AugAssign (.Name x pos') op a pos) (sAug i fo f) := by
  refine ps_wk (ps_aug hN hi hx h ho hf) fun D σ H ⟨env, w, er, R, p⟩ => ?_
  unfold sAug at p
  split at p
  · next x hx =>
    obtain ⟨v, hv, rv⟩ := er.get hx
    refine ⟨v, hv, env, w, er, R, Sst.bind er p fun y u H v2 l R er ry p => ?_⟩
    split at p
    · next a b ha hb => exact ⟨a, b, intOf_ok (rv.up l) ha, intOf_ok ry hb, p u H _ rfl (Le.refl _) R (er.set (.d (.int _)) i)⟩
    · exact p.elim
  · exact p.elim
/-- target = e -/
def sUnp (tg : GF) (f : EF) : SF := fun e S => sbind e (f e S) fun x S => match tg x e with
  | some e' => .nx e' S
  | none => .stuck
theorem ms_unp {tgt a : Expr} {pos : Pos} {g : TG} {tg : GF} {js : List Nat} {f : EF} (h : PM X Γ W a f) (hg : PG X tgt g) (hj : TgOk (gx X Γ) g tg js) (hs : swapsWithSole [tgt] a pos.line X.env = pure false := by rfl) (hw : swappedStores [tgt] a X.env = pure none := by rfl)
    (h1 : (assignEach [tgt] X.env).map (·.2) = [assign tgt X.env] := by rfl) : SM X Γ W (.Assign [tgt] a pos) (sUnp tg f) := by
  refine ps_wk (ps_asg h hg hs hw h1) fun D σ H ⟨env, w, er, R, p⟩ => ?_
  refine ⟨env, w, er, R, Sst.bind er p fun x u H v l R er r p => ?_⟩
  split at p
  · next e' he => exact hj u H σ env e' x v _ er R r he fun σ' er' _ => p u H σ' rfl (Le.refl _) R er'
  · exact p.elim
/-! ## walks -/
def refOf : Val → Option Nat
  | .ref i => some i
  | _ => none
theorem lstOf_ref {S : Store} {i : Nat} {m : List Val} : lstOf S (.ref i) = some m ↔ S[i]? = some (some (.lst m)) := by
  show (match S[i]? with
    | some (some (.lst l)) => some l
    | _ => none) = some m ↔ _
  constructor
  · intro h
    split at h
    · next l q => cases h; exact q
    · cases h
  · intro h
    rw [h]
theorem lstOf_later {S S' : Store} {x : Val} {m : List Val} (h : lstOf S x = some m) (g : gd (refOf x) m S') : lstOf S' x = some m := by
  cases x with
  | d y => cases y <;> first | exact h | exact nomatch h
  | tup l => exact nomatch h
  | ref i => exact lstOf_ref.mpr g
theorem lstOf_gd {S : Store} {x : Val} {m : List Val} (h : lstOf S x = some m) : gd (refOf x) m S := by
  cases x with
  | d y => trivial
  | tup l => trivial
  | ref i => exact lstOf_ref.mp h
def iSeq (f : EF) : IF := fun e S => rbind (f e S) fun x S => match lstOf S x with
  | some l => .ok (l, refOf x) S
  | none => .stuck
def iTupS (f : EF) : IF := fun e S => rbind (f e S) fun x S => match tupOf x with
  | some l => .ok (l, none) S
  | none => .stuck
def signs (s : Str) : List Val := s.cps.toList.map fun c => .d (.str ⟨#[c]⟩)
def iSigns (f : EF) : IF := fun e S => rbind (f e S) fun x S => match strOf x with
  | some s => .ok (signs s, none) S
  | none => .stuck
theorem Rep.lx {G : Gm} {w w' : Wd} {H : Hp} {a : Addr} {o : HO} (lx : Lx w w') (R : Rep G w' H) (h : w.F a = some o) : H a = some o := R.sub' _ _ (lx.F _ _ h)
theorem VRs.ix {G : Gm} {w : Wd} {l : List Val} {us : List V} {i : Nat} {v : V} (h : VRs G w l us) (e : us[i]? = some v) : ∃ y, l[i]? = some y ∧ VR G w y v := h.at' e
theorem im_list {tg e : Expr} {f : EF} (h : PM X Γ W e f) : IM X Γ W tg e (iSeq f) := by
  refine ⟨fun pins s σ H R I q => (pi_list h).run pins s σ H R I ?_⟩
  obtain ⟨env, w, er, R, p⟩ := q
  refine ⟨env, w, er, R, p.bind fun x u H v l R r p => ?_⟩
  split at p
  · next m hm =>
    obtain ⟨a, us, rfl, ha, ru⟩ := lstOf_ok R r hm
    refine ⟨a, rfl, ⟨us, sq_of ha⟩, p.here R ⟨?_, ?_⟩⟩
    · exact lstOf_gd hm
    · have key : ∀ w' H', Lx u w' → Rep (gx X Γ) w' H' → gd (refOf x) m w'.S → ∃ vs, H' a = some (.lst vs) ∧ VRs (gx X Γ) w' m vs := fun w' H' lx R' g => by
        obtain ⟨b, vs, e, h, r'⟩ := lstOf_ok R' (r.upx lx) (lstOf_later hm g)
        cases e
        exact ⟨vs, h, r'⟩
      refine ⟨fun w' H' i lx R' g hi => ?_, fun w' H' lx R' g => ?_, fun w' H' i v H2 lx R' g hi y => ?_⟩
      · obtain ⟨vs, h, r'⟩ := key w' H' lx R' g
        have hl : i < vs.length := by rw [← r'.len]; exact hi
        exact ⟨vs, vs[i], sq_of h, by simp [hl]⟩
      · obtain ⟨vs, h, r'⟩ := key w' H' lx R' g
        exact ⟨vs, sq_of h, Nat.le_of_eq r'.len.symm⟩
      · obtain ⟨vs, h, r'⟩ := key w' H' lx R' g
        obtain ⟨rfl, hv⟩ := y
        obtain ⟨z, hz, rz⟩ := r'.ix (hv vs (sq_of h))
        exact ⟨w', z, rfl, Le.refl _, R', hz, rz⟩
  · exact p.elim
theorem im_tup {tg e : Expr} {f : EF} (h : PM X Γ W e f) : IM X Γ W tg e (iTupS f) := by
  refine ⟨fun pins s σ H R I q => (pi_tup h).run pins s σ H R I ?_⟩
  obtain ⟨env, w, er, R, p⟩ := q
  refine ⟨env, w, er, R, p.bind fun x u H v l R r p => ?_⟩
  split at p
  · next m hm =>
    obtain ⟨a, us, rfl, ha, ru⟩ := r.tupOf hm
    refine ⟨a, rfl, ⟨us, ex_t R.sub' ha⟩, p.here R ⟨True.intro, walkM_of (walk_tup (xs := us)) ru.len.symm (fun w' H' lx R' g => ex_t R'.sub' (ex_t lx.F ha)) (fun w' H' i v H2 lx R' g hi y => ?_)⟩⟩
    obtain ⟨rfl, hv⟩ := y
    obtain ⟨z, hz, rz⟩ := (ru.upx lx).ix hv
    exact ⟨w', z, rfl, Le.refl _, R', hz, rz⟩
  · exact p.elim
theorem im_signs {tg e : Expr} {f : EF} (h : PM X Γ W e f) : IM X Γ W tg e (iSigns f) := by
  refine ⟨fun pins s σ H R I q => (pi_str h).run pins s σ H R I ?_⟩
  obtain ⟨env, w, er, R, p⟩ := q
  refine ⟨env, w, er, R, p.bind fun x u H v l R r p => ?_⟩
  split at p
  · next z hz =>
    refine ⟨z, strOf_ok r hz, p.here R ⟨True.intro, walkM_of walk_str (by simp [signs]) (fun _ _ _ _ _ => True.intro) (fun w' H' i v H2 lx R' g hi y => ?_)⟩⟩
    obtain ⟨rfl, c, hc, rfl⟩ := y
    refine ⟨w', .d (.str ⟨#[c]⟩), rfl, Le.refl _, R', ?_, .d (.str _)⟩
    simp [signs, hc]
  · exact p.elim
/-- by what comes -/
def iAny (f : EF) : IF := fun e S => rbind (f e S) fun x S => match lstOf S x with
  | some l => .ok (l, refOf x) S
  | none => match tupOf x with
    | some l => .ok (l, none) S
    | none => match strOf x with
      | some s => .ok (signs s, none) S
      | none => .stuck
theorem im_any {tg e : Expr} {f : EF} (h : PM X Γ W e f) : IM X Γ W tg e (iAny f) := by
  have h1 := pi_either (im_list (tg := tg) h) (pi_either (im_tup (tg := tg) h) (im_signs (tg := tg) h))
  refine ⟨fun pins s σ H R I q => h1.run pins s σ H R I ?_⟩
  obtain ⟨env, w, er, R, p⟩ := q
  have key : iAny f env w.S = iSeq f env w.S ∨ iAny f env w.S = iTupS f env w.S ∨ iAny f env w.S = iSigns f env w.S := by
    unfold iAny iSeq iTupS iSigns
    cases f env w.S with
    | ok x S =>
      dsimp only [rbind]
      cases lstOf S x with
      | some l => exact .inl rfl
      | none => cases tupOf x with
        | some l => exact .inr (.inl rfl)
        | none => cases strOf x with
          | some s => exact .inr (.inr rfl)
          | none => exact .inl rfl
    | exc x S => exact .inl rfl
    | stuck => exact .inl rfl
  rcases key with k | k | k
  · rw [k] at p; exact .inl ⟨env, w, er, R, p⟩
  · rw [k] at p; exact .inr (.inl ⟨env, w, er, R, p⟩)
  · rw [k] at p; exact .inr (.inr ⟨env, w, er, R, p⟩)
def rangeV (lo : Int) (n : Nat) : List Val := (List.range n).map fun k => .d (.int (lo + (k : Nat)))
def iRange1 (f : EF) : IF := fun e S => rbind (f e S) fun x S => match intOf x with
  | some j => if -1000000 ≤ j ∧ j ≤ 1000000 then .ok (rangeV 0 j.toNat, none) S else .stuck
  | none => .stuck
theorem range_w {G : Gm} {u : Wd} {lo : Int} {n : Nat} : WalkM G u (Itr lo n) (rangeV lo n) none := walkM_of walk_range (by simp [rangeV]) (fun _ _ _ _ _ => True.intro) fun w' H' i v H2 lx R' g hi y => by
  obtain ⟨rfl, rfl⟩ := y
  refine ⟨w', .d (.int (lo + (i : Nat))), rfl, Le.refl _, R', ?_, .d (.int _)⟩
  have : i < n := by simpa [rangeV] using hi
  simp [rangeV, this]
theorem im_range1 {tg a : Expr} {p pos : Pos} {f : EF} (hg : Gl X "range") (hm : X.mg "range" = none) (h : PM X Γ W a f) (hs : starEach [a] X.env = (false, eval a X.env) :: starEach [] X.env := by rfl) (hs2 : starEach [a] X.env = [(false, eval a X.env)] := by rfl) : IM X Γ W tg (.Call (.Name "range" p) [a] [] pos) (iRange1 f) := by
  refine ⟨fun pins s σ H R I q => (pi_range1 hg hm (pa_cons h pa_nil hs) hs2).run pins s σ H R I ?_⟩
  obtain ⟨env, w, er, R, p⟩ := q
  refine ⟨env, w, er, R, p.bind fun x u H v l R r p => ?_⟩
  split at p
  · next j hj =>
    obtain rfl := intOf_ok r hj
    split at p
    · next hb => exact ⟨j, rfl, by omega, by omega, p.here R ⟨True.intro, range_w⟩⟩
    · exact p.elim
  · exact p.elim
def iRange2 (f g : EF) : IF := fun e S => rbind (f e S) fun x S => rbind (g e S) fun y S => match intOf x, intOf y with
  | some i, some j => if -1000000 ≤ i ∧ i ≤ 1000000 ∧ -1000000 ≤ j ∧ j ≤ 1000000 then .ok (rangeV i (j - i).toNat, none) S else .stuck
  | _, _ => .stuck
theorem im_range2 {tg a b : Expr} {p pos : Pos} {f g : EF} (hg : Gl X "range") (hm : X.mg "range" = none) (h : PM X Γ W a f) (h' : PM X Γ W b g) (hs : starEach [a, b] X.env = (false, eval a X.env) :: starEach [b] X.env := by rfl) (hs1 : starEach [b] X.env = (false, eval b X.env) :: starEach [] X.env := by rfl)
    (hs2 : starEach [a, b] X.env = [(false, eval a X.env), (false, eval b X.env)] := by rfl) (hs3 : starEach [b] X.env = [(false, eval b X.env)] := by rfl) : IM X Γ W tg (.Call (.Name "range" p) [a, b] [] pos) (iRange2 f g) := by
  refine ⟨fun pins s σ H R I q => (pi_range2 hg hm (pa_cons h (pa_cons h' pa_nil hs1) hs) hs2 hs3).run pins s σ H R I ?_⟩
  obtain ⟨env, w, er, R, p⟩ := q
  refine ⟨env, w, er, R, p.bind fun x u H v l R r p => ⟨env, u, er.up l, R, p.bind fun y u2 H v2 l2 R r2 p => ?_⟩⟩
  split at p
  · next i j hi hj =>
    obtain rfl := intOf_ok (r.up l2) hi
    obtain rfl := intOf_ok r2 hj
    split at p
    · next hb => exact ⟨i, j, rfl, by omega, p.here R ⟨True.intro, range_w⟩⟩
    · exact p.elim
  · exact p.elim
/-! ## comprehensions, whole -/
theorem pi_wk {tg e : Expr} {t t' : TI} (h : PI X tg e t) (k : ∀ σ H Q, t' σ H Q → t σ H Q) : PI X tg e t' := ⟨fun pins s σ H Q I q => h.run pins s σ H Q I (k _ _ _ q)⟩
noncomputable def eComp (live : Bool) (it : IF) (tg : GF) (tt : BF) (ef : EF) (vs : List Nat) : EF := fun e S => rbind (compF it tg tt ef vs e S) (mkL live)
theorem lc_end {b : Bool} : ∀ (w : Wd) (H : Hp) (E : XK) (Q : VK) (l : List Val) (us : List V) (D : Addr) (O0 : Hp), Rep (gx X Γ) w H → w.O = upd O0 D (.lst us) → O0 D = none → VRs (gx X Γ) w l us → Pst (gx X Γ) (VR (gx X Γ)) E { w with O := O0 } (mkL b l w.S) Q → Q (.ref D) H := fun w H E Q l us D O0 R hO nO r p => by
  have hOD : w.O D = some (.lst us) := by rw [hO, upd_same]
  have hHD : H D = some (.lst us) := by obtain ⟨κ, R⟩ := R; exact R.os _ _ hOD
  have fD : w.F D = none := by obtain ⟨κ, R⟩ := R; exact R.of _ _ hOD
  have lD : ∀ i, i < w.S.length → w.ρ i ≠ D := fun i hi z => by
    obtain ⟨κ, R⟩ := R
    have := R.ol i hi; rw [z, hOD] at this; cases this
  have R1 := R.unO (O0 := O0) (by rw [hO]; exact Ex.new nO)
  have r1 : VRs (gx X Γ) { w with O := O0 } l us := r.up0 (w := w) (w' := { w with O := O0 }) (Ex.refl _) (Nat.le_refl _) fun _ _ => rfl
  cases b with
  | true =>
    refine p (Wd.push { w with O := O0 } D (.lst l)) _ _ rfl Le.push (R1.adopt ⟨_, hHD⟩ fD nO lD (fun κ K j id l hc b hb z => ?_) (fun _ _ z => by cases z) ⟨_, hHD, r1⟩) VR.new
    have hc' : live w.S j (.clo id l) := hc
    obtain ⟨v, hv, hn⟩ := K.kH hc' hb
    subst z
    rw [hHD] at hv
    cases hv
    cases hn
  | false =>
    unfold mkL newF at p
    rw [if_neg (by simp)] at p
    split at p
    · next m hm =>
      have leD : Le { w with O := O0 } (Wd.add { w with O := O0 } D (.lst us)) := Le.add fD
      exact p (Wd.add { w with O := O0 } D (.lst us)) _ _ rfl leD (R1.addF hHD fD (fun i c hc z => lD i (live.lt (S := _) hc) z.symm) rfl nO) (.d (.lst upd_same ((r1.dats hm).up leD.F)))
    · exact p.elim
theorem m_lc {b : Bool} {elt tgt iter : Expr} {ifs : List Expr} {scope : Scope} {own : List (Str × Nat)} {pos : Pos} {g : TG} {js : List Nat} {it : IF} {tg : GF} {tt : BF} {ef : EF} (hc : X.calm = true) (hN : X.N.Nodup) (hi : IM X Γ W tgt iter it) (ok : BlkOk X.N X.env.scope scope own)
    (hg : ∀ (s : Shared) (H : Hp) (C : Addr) (cl : List (Str × Addr)) (fp : List Addr), PG (X.blk s H scope (compEnvC scope cl C X.env) fp) tgt g) (hj : TgOk (gx X Γ) g tg js) (hv : ∀ j ∈ js, j ∈ own.map (·.2))
    (ht : ∀ (s : Shared) (H : Hp) (C : Addr) (cl : List (Str × Addr)) (fp : List Addr), TMs (X.blk s H scope (compEnvC scope cl C X.env) fp) Γ W0 ifs tt)
    (he : ∀ (s : Shared) (H : Hp) (C : Addr) (cl : List (Str × Addr)) (fp : List Addr), PM (X.blk s H scope (compEnvC scope cl C X.env) fp) Γ W0 elt ef) (hs : ∀ x, foldedSetIterable iter X.env x = pure x := by intro _; rfl) :
    PM X Γ W (.ListComp elt [⟨tgt, iter, ifs, 0⟩] scope pos) (eComp b it tg tt ef (own.map (·.2))) :=
  pe_wk (pe_lc (tt := tM (gx X Γ) BR W0 tt) (te := tM (gx X Γ) (VR (gx X Γ)) W0 ef) hc hN hi ok hg ht he hs) fun σ H Q h => tLc_ok hj hv lc_end h
theorem ms_lc {b : Bool} {i : Nat} {y : Str} {py : Pos} {elt tgt iter : Expr} {ifs : List Expr} {scope : Scope} {own : List (Str × Nat)} {pos spos : Pos} {g : TG} {js : List Nat} {it : IF} {tg : GF} {tt : BF} {ef : EF} (hc : X.calm = true) (hN : X.N.Nodup) (hy : X.N[i]? = some y) (hyl : X.env.scope.names.lookup y = some .local)
    (hsw : swapsWith (.ListComp elt [⟨tgt, iter, ifs, 0⟩] scope pos) (some (.Name y py)) spos.line X.env = pure true) (hi : IM X Γ W tgt iter it) (ok : BlkOk X.N X.env.scope scope own)
    (hg : ∀ (s : Shared) (H : Hp) (C : Addr) (cl : List (Str × Addr)) (fp : List Addr), PG (X.blk s H scope (compEnvC scope cl C X.env) fp) tgt g) (hj : TgOk (gx X Γ) g tg js) (hv : ∀ j ∈ js, j ∈ own.map (·.2))
    (ht : ∀ (s : Shared) (H : Hp) (C : Addr) (cl : List (Str × Addr)) (fp : List Addr), TMs (X.blk s H scope (compEnvC scope cl C X.env) fp) Γ W0 ifs tt)
    (he : ∀ (s : Shared) (H : Hp) (C : Addr) (cl : List (Str × Addr)) (fp : List Addr), PM (X.blk s H scope (compEnvC scope cl C X.env) fp) Γ W0 elt ef) (hs : ∀ x, foldedSetIterable iter X.env x = pure x := by intro _; rfl) :
    SM X Γ W (.Assign [.Name y py] (.ListComp elt [⟨tgt, iter, ifs, 0⟩] scope pos) spos) (sAsg i (eComp b it tg tt ef (own.map (·.2)))) := by
  refine ps_wk (ps_setLc (tt := tM (gx X Γ) BR W0 tt) (te := tM (gx X Γ) (VR (gx X Γ)) W0 ef) hc hN hy hyl hsw hi ok hg ht he hs) fun D σ H ⟨env, w, er, R, p⟩ => ?_
  exact tLc_ok (W := W) hj hv lc_end ⟨env, w, er, R, Sst.bind er p fun x u H v l R er r p => p u H _ rfl (Le.refl _) R (er.set r i)⟩
/-- y = [..] where the comprehension's list is stored by its own statement -/
theorem ms_lc0 {b : Bool} {i : Nat} {y : Str} {py : Pos} {e : Expr} {spos : Pos} {f : EF} (hN : X.N.Nodup) (hi : X.N[i]? = some y) (hx : Loc X.env.scope y) (h : PM X Γ W e f) (hs : swapsWith e (some (.Name y py)) spos.line X.env = pure false)
    (hf : X.fn y = true ∨ X.env.scope.names.lookup y = some .local := by first | exact .inl rfl | exact .inr rfl | assumption) : SM X Γ W (.Assign [.Name y py] e spos) (sAsg i f) := ms_set hN hi hx h hs hf
end
end Z
set_option Elab.async false
set_option linter.all false
set_option maxRecDepth 100000
set_option maxHeartbeats 4000000
namespace Z
open PySem L2 Evl NdefX LamX
section
variable {X : Cx} {Γ : Gr} {W : WX}
/-! ## items of lists written -/
/-- xs[k] = z -/
def gLput (x y z : Val) (S : Store) : Option Store := match cellL S x, intOf y with
  | some (i, m), some k => match L2.ixN m.length k with
    | some j => some (S.set i (some (.lst (m.set j z))))
    | none => none
  | _, _ => none
theorem VRs.set {G : Gm} {w : Wd} {z : Val} {t : V} (h : VR G w z t) : ∀ {l : List Val} {us : List V} (j : Nat), VRs G w l us → VRs G w (l.set j z) (us.set j t)
  | _, _, _, .nil => .nil
  | _, _, 0, .cons _ r => .cons h r
  | _, _, j + 1, .cons k r => .cons k (VRs.set h j r)
theorem gLput_ok {G : Gm} {w : Wd} {H : Hp} {x y z : Val} {v u t : V} {S' : Store} (R : Rep G w H) (rx : VR G w x v) (ry : VR G w y u) (rz : VR G w z t) (e : gLput x y z w.S = some S') :
    ∃ p xs k j, v = .ref p ∧ u = .int k ∧ H p = some (.lst xs) ∧ L2.ixN xs.length k = some j ∧ Rep G { w with S := S' } (upd H p (.lst (xs.set j t))) ∧ Le w { w with S := S' } := by
  unfold gLput at e
  split at e
  · next i m k hc hk =>
    split at e
    · next j hj =>
      cases e
      obtain ⟨us, rfl, hp, ru, wr⟩ := cellL_ok R rx hc
      obtain rfl := intOf_ok ry hk
      obtain ⟨R', le⟩ := wr _ _ (VRs.set rz j ru)
      exact ⟨_, us, k, j, rfl, rfl, hp, by rw [← ru.len]; exact hj, R', le⟩
    · cases e
  · cases e
def sLput (fo fk fv : EF) : SF := fun e S => sbind e (fv e S) fun z S => sbind e (fo e S) fun x S => sbind e (fk e S) fun y S => match gLput x y z S with
  | some S' => .nx e S'
  | none => .stuck
theorem ms_lput {o i a : Expr} {p' pos : Pos} {fo fk fv : EF} (ho : PM X Γ W o fo) (hi : PM X Γ W i fk) (hv : PM X Γ W a fv) (hs : swapsWithSole [.Subscript o i p'] a pos.line X.env = pure false := by rfl) (hw : swappedStores [.Subscript o i p'] a X.env = pure none := by rfl)
    (h1 : (assignEach [.Subscript o i p'] X.env).map (·.2) = [assign (.Subscript o i p') X.env] := by rfl)
    (ha : ∀ v, assign (.Subscript o i p') X.env v = (do
      let ov ← holding [v] (eval o X.env)
      let iv ← holding [v, ov] (eval i X.env)
      standAt p'
      holding [v, ov, iv] (setItem ov iv v)
      release [v, ov, iv] []) := by intro _; rfl) : SM X Γ W (.Assign [.Subscript o i p'] a pos) (sLput fo fk fv) := by
  refine ps_wk (ps_asg hv (pg_sub ho hi set_list ha) hs hw h1) fun D σ H ⟨env, w, er, R, p⟩ => ?_
  refine ⟨env, w, er, R, Sst.bind er p fun z u H v l R er rz p => ?_⟩
  refine ⟨env, u, er, R, Sst.bind er p fun x u2 H2 v2 l2 R2 er2 rx p => ?_⟩
  refine ⟨env, u2, er2, R2, Sst.bind er2 p fun y u3 H3 v3 l3 R3 er3 ry p => ?_⟩
  split at p
  · next S' h =>
    obtain ⟨q, xs, k, j, e1, e2, e3, e4, R4, le⟩ := gLput_ok R3 (rx.up l3) ry ((rz.up l2).up l3) h
    exact ⟨q, xs, k, j, e1, e2, e3, e4, p _ _ σ rfl le R4 (er3.up le)⟩
  · exact p.elim
theorem pget_list : PGet X (rIxL X.K) := by
  intro pins s σ H x y v u Q I rx ry h
  obtain ⟨p, xs, i, z, rfl, rfl, hq, he, q⟩ := h
  cases rx
  obtain ⟨t, rfl⟩ := ry
  obtain ⟨its, r, pl, hz⟩ := I.list hq
  obtain ⟨j, h1, h2, h3, h4, h5⟩ := atI_get he
  obtain ⟨w, ew, rw'⟩ := r.get h2
  have hl := r.length
  have hn := line63
  have fin : EP X pins σ Q w s := ⟨z, H, I, rw', q⟩
  by_cases h0 : 0 ≤ i
  · have hj : i.toNat = j := by
      rw [seqIndex_of h0 h5] at h1
      exact Option.some.inj h1
    exact wpAny_getItem_list pl.isList h0 (by omega) (by rw [hj]; simpa using ew) fin
  · have hj : (i + (its.toArray.size : Int)).toNat = j := by
      rw [seqIndex_neg (by omega) h4] at h1
      rw [List.size_toArray, ← hl]
      exact Option.some.inj h1
    exact wpAny_getItem_list_neg pl.isList (by omega) (by rw [List.size_toArray] <;> omega) (by omega) (by rw [hj]; simpa using ew) fin
def gIxL (x y : Val) (S : Store) : Res Val := match cellL S x, intOf y with
  | some (_, m), some k => match L2.atI m k with
    | some z => .ok z S
    | none => .stuck
  | _, _ => .stuck
theorem gIxL_ok : OpM Γ X (rIxL X.K) gIxL := fun w H x y v u E Q R rx ry p => by
  unfold gIxL at p
  split at p
  · next i m k hc hk =>
    split at p
    · next z hz =>
      obtain ⟨us, rfl, hp, ru, wr⟩ := cellL_ok R rx hc
      obtain rfl := intOf_ok ry hk
      obtain ⟨zv, h1, h2⟩ := ru.atI hz
      exact ⟨_, us, k, zv, rfl, rfl, SqL.of hp, h1, p.here R h2⟩
    · exact p.elim
  · exact p.elim
/-- xs[k] += e, numbers -/
def sLaug (fo fk fv : EF) : SF := fun e S => sbind e (fo e S) fun x S => sbind e (fk e S) fun y S => sbind e (gIxL x y S) fun z S => sbind e (fv e S) fun t S => match intOf z, intOf t with
  | some i, some j => match gLput x y (.d (.int (i + j))) S with
    | some S' => .nx e S'
    | none => .stuck
  | _, _ => .stuck
theorem ms_laug {o i a : Expr} {tp pos : Pos} {fo fk fv : EF} (ho : PM X Γ W o fo) (hi : PM X Γ W i fk) (hv : PM X Γ W a fv)
    (ha : ∀ ov iv new, augStore i ov iv new = (do holding [new, ov, iv] (setItem ov iv new); release [new, ov, iv] []; pure .next) := by intro _ _ _; rfl) : SM X Γ W (.AugAssign (.Subscript o i tp) .Add a pos) (sLaug fo fk fv) := by
  refine ps_wk (ps_augS ho hi pget_list hv ip_add set_list ha) fun D σ H ⟨env, w, er, R, p⟩ => ?_
  refine ⟨env, w, er, R, Sst.bind er p fun x u H v l R er rx p => ?_⟩
  refine ⟨env, u, er, R, Sst.bind er p fun y u2 H2 v2 l2 R2 er2 ry p => ?_⟩
  have key := Sst.bind (R1 := VR (gx X Γ)) er2 (r := gIxL x y u2.S) p (Q := fun z H3 => tM (gx X Γ) (VR (gx X Γ)) W fv σ H3 fun t H4 => ipI (fun i j => i + j) z t H4 fun nw H5 => rSetL v v2 nw H5 fun H6 => D.nx σ H6) fun z u3 H3 v3 l3 R3 er3 rz p => by
    refine ⟨env, u3, er3, R3, Sst.bind er3 p fun t u4 H4 v4 l4 R4 er4 rt p => ?_⟩
    split at p
    · next i j hi hj =>
      split at p
      · next S' h =>
        obtain ⟨q, xs, k, j', e1, e2, e3, e4, R5, le⟩ := gLput_ok R4 (((rx.up l2).up l3).up l4) ((ry.up l3).up l4) (.d (.int (i + j))) h
        exact ⟨i, j, intOf_ok (rz.up l4) hi, intOf_ok rt hj, q, xs, k, j', e1, e2, e3, e4, p _ _ σ rfl le R5 (er4.up le)⟩
      · exact p.elim
    · exact p.elim
  exact gIxL_ok u2 H2 x y v v2 _ _ R2 (rx.up l2) ry key
end
end Z
set_option Elab.async false
set_option linter.all false
set_option maxRecDepth 100000
set_option maxHeartbeats 4000000
namespace Z
open PySem L2 Evl NdefX LamX PyProof.Rows
section
variable {X : Cx} {Γ : Gr} {W : WX}
/-! ## raise -/
def sRaise (c : Str) : SF := fun e S => .exc ⟨c, none⟩ e S
theorem ms_raise {C : Addr} {cn x m : Str} {j : Nat} {p p2 pos pos2 : Pos} (hc : X.calm = true) (tk : Takes X W) (hC : Γ.C cn = C) (q : PySem.W.excIn X.K C [.type "ValueError", .type "Exception", .type "BaseException", .type "object"] "ValueError.__new__" = true) (gC : X.mg x = some (.ref C)) (kC : PySem.W.keepIn X.K (.ref C) = true)
    (r1 : PySem.W.subIn X.K (.ref C) (.type "BaseException") = some true) (r2 : PySem.W.typeIn X.K (.ref C) = some (.type "type")) (hg : Gl X x) (hd : (x == ("__debug__" : Str)) = false := by decide) :
    SM X Γ W (.Raise (some (.Call (.Name x p) [.Constant (.str m) j p2] [] pos)) none pos2) (sRaise cn) := by
  refine ps_wk (ps_raise hc tk (pmk_own PySem.F.excBase_ValueError q gC kC (raises_own r1 r2) hg hd)) fun D σ H ⟨env, w, er, R, p⟩ => ?_
  exact p w H σ _ _ rfl (Le.refl _) R er ⟨by rw [← hC], .inl ⟨rfl, rfl⟩⟩
/-- what the __init__ of an own error does that keeps a word and a name in one field -/
def spErr (C : Addr) (fld : Str) : Sp := fun vs H Q _ => ∃ (a : Addr) (y z : V), vs = [.ref a, y, z] ∧ H a = some (exo a C none) ∧ ∀ p dx, H p = none → upd H p (.tup [y, z]) dx = none → dx ≠ a →
  Q .non (upd (upd (upd H p (.tup [y, z])) dx (exd dx [(fld, .ref p)])) a (exo a C (some dx)))
/-- what is known of it -/
structure ErrF (K : PySem.W.Frag) (mg : Str → Option Value) (x fld : Str) (C fI : Addr) (fd : FuncData) : Prop where
  g : mg x = some (.ref C)
  o : OexC K C
  i : PySem.W.findIn K (.ref C) "__init__" = some (some (.ref fI))
  t : PySem.W.typeIn K (.ref fI) = some (.type "function")
  b : Binds K fd ["self", "word", "name"] []
  no : PySem.W.findIn K (.ref C) fld = some none
  xf : XfC K C
/-- raise X(word, name) -/
def sRaise2 (c f : Str) (fa : AF) : SF := fun e S => sbind e (fa e S) fun l S => match l with
  | [.d x, .d y] => .exc ⟨c, some [(f, .tup [x, y])]⟩ e S
  | _ => .stuck
theorem ms_raise2 {C fI : Addr} {fd : FuncData} {cn x f : Str} {a : Expr} {as : List Expr} {p pos pos2 : Pos} {fa : AF} {n : Nat} (hc : X.calm = true) (tk : Takes X W) (T : ErrF X.K X.mg x f C fI fd) (hC : Γ.C cn = C) (F1 : FnOk X.prog X.w X.K X.mg X.base CX0 1 fI fd ["self", "word", "name"] (spErr C f)) (hr : Rm n X.A) (hg : Gl X x)
    (ha : AM X Γ W (a :: as) fa) (hd : (x == ("__debug__" : Str)) = false := by decide) (he : starEach (a :: as) X.env = (false, eval a X.env) :: starEach as X.env := by rfl) (hpl : (backTo pos (starEach as X.env)).any (·.1) = false := by rfl) :
    SM X Γ W (.Raise (some (.Call (.Name x p) (a :: as) [] pos)) none pos2) (sRaise2 cn f fa) := by
  refine ps_wk (ps_raise hc tk (pmk_oex T.o T.i T.t F1 hr.room T.b .nil (fun _ _ _ _ _ _ _ h => h.elim) hg T.g ha hd he hpl)) fun D σ H ⟨env, w, er, R, p⟩ => ?_
  refine ⟨env, w, er, R, Sst.bind er p fun l u H vs le R er rl p => ?_⟩
  split at p
  · next x y =>
    cases rl with | cons rx rl => ?_
    cases rl with | cons ry rn => ?_
    cases rn
    rename_i vx vy
    cases rx with | d dx => ?_
    cases ry with | d dy => ?_
    refine ⟨by show 2 ≤ 1000; decide, fun b hb => ⟨b, _, _, rfl, upd_same, fun q d hq hd' hne => ⟨rfl, d, [(f, .ref q)], upd_same, by rw [upd_ne hne, upd_same], ?_, ?_⟩⟩⟩
    · have h1 := upd_none (upd_none hd')
      exact h1
    · have nq : H q = none := upd_none hq
      have qb : q ≠ b := fun z => by rw [z, upd_same] at hq; cases hq
      have nd : H d = none := upd_none (upd_none hd')
      have dq : d ≠ q := fun z => by rw [z, upd_same] at hd'; cases hd'
      have eH : upd (del (upd (upd (upd (upd H b (exo b C none)) q (.tup [vx, vy])) d (exd d [(f, .ref q)])) b (exo b C (some d))) b) d (.xd [(f, .ref q)]) = upd (upd H q (.tup [vx, vy])) d (.xd [(f, .ref q)]) := by
        funext c
        by_cases e1 : c = d
        · subst e1; rw [upd_same, upd_same]
        · rw [upd_ne e1, upd_ne e1]
          by_cases e2 : c = b
          · subst e2
            rw [del_same, upd_ne (fun z => qb z.symm)]; exact hb.symm
          · rw [del_ne e2, upd_ne e2, upd_ne e1]
            by_cases e3 : c = q
            · subst e3; rw [upd_same, upd_same]
            · rw [upd_ne e3, upd_ne e3, upd_ne e2]
      rw [eH]
      have R1 := R.new (o := .tup [vx, vy]) nq
      have le1 : Le u (u.add q (.tup [vx, vy])) := Le.add (R.noF nq)
      have nd1 : upd H q (.tup [vx, vy]) d = none := by rw [upd_ne dq]; exact nd
      have R2 := R1.new (o := .xd [(f, .ref q)]) nd1
      have le2 : Le (u.add q (.tup [vx, vy])) ((u.add q (.tup [vx, vy])).add d (.xd [(f, .ref q)])) := Le.add (R1.noF nd1)
      refine p ((u.add q (.tup [vx, vy])).add d (.xd [(f, .ref q)])) _ σ _ _ rfl (le1.trans le2) R2 (er.up (le1.trans le2)) ⟨by rw [← hC], .inr ⟨_, d, _, rfl, rfl, upd_same, rfl, .cons (.tup (st_of ?_) (.cons (dx.up (le1.trans le2).F) (.cons (dy.up (le1.trans le2).F) .nil))) .nil⟩⟩
      show upd (upd u.F q _) d _ q = _
      rw [upd_ne dq.symm, upd_same]
  · exact p.elim
/-! ## try -/
def noexc (r : SRes) : SRes := match r with
  | .exc _ _ _ => .stuck
  | r => r
def sTry (ct : Str → Option Bool) (body suite : SF) : SF := fun e S => match body e S with
  | .exc x e' S' => match ct x.cls with
    | some true => noexc (suite e' S')
    | some false => .exc x e' S'
    | none => .stuck
  | r => r
theorem Sst.noexc {G : Gm} {W W' : WX} {D : Ends} {w : Wd} {r : SRes} (h : Sst G W D w (Z.noexc r)) : Sst G W' D w r := by
  cases r with
  | exc x e S => exact h.elim
  | nx e S => exact h
  | rt x S => exact h
  | bk e S => exact h
  | ct e S => exact h
  | stuck => exact h
theorem ms_try {x : Str} {c : Value} {body suite : List Stmt} {b₀ : Stmt} {np pos pos' : Pos} {ct : Str → Option Bool} {fb fs : SF} (hs : X.stack = X.env :: X.outer) (hf : X.env.frame = some X.env.locals) (hc : Names X x c) (tk : Takes X W)
    (hct : ∀ k b, ct k = some b → PySem.W.exmOne X.K (.ref (Γ.C k)) c = some b)
    (hb : ∀ (W' : WX) (pn : List (Addr × Obj)) (xe : Value → Shared → Prop), Takes (X.tr pn xe) W' → PassesOwn (model X.prog X.w) X.A X.env xe → SMs (X.tr pn xe) Γ W' body fb)
    (hsu : ∀ (a : Addr) (oe : Obj) (cls : Value) (d : Option Addr) (pn : List (Addr × Obj)), Zc cls d oe → (∃ vs, oe.data = .fields vs) → SMs (X.suite a ((a, oe) :: pn)) Γ W0 (b₀ :: suite) fs) :
    SM X Γ W (.Try body [.ExceptHandler (some (.Name x np)) none (b₀ :: suite) pos'] [] [] pos) (sTry ct fb fs) := by
  refine ps_wk (ps_try_only (tb := fun W' => tSM (gx X Γ) W' fb) (ts := fun _ _ _ => tSM (gx X Γ) W0 fs) hs hf hc tk (fun W' pn xe t p => hb W' pn xe t p) fun a oe cls d pn h1 h2 => hsu a oe cls d pn h1 h2) fun D σ H ⟨env, w, er, R, p⟩ => ?_
  refine ⟨env, w, er, R, ?_⟩
  unfold sTry at p
  cases q : fb env w.S with
  | exc x e' S' =>
    rw [q] at p
    dsimp only at p
    intro u H1 σ1 cls d es le R1 er1 xr
    subst es
    split at p
    · next hk =>
      have p2 := Sst.later le p
      refine ⟨true, by rw [xr.1]; exact hct _ _ hk, fun _ a ha => ⟨e', u, er1, R1, ?_⟩, fun z => nomatch z⟩
      exact Sst.noexc p2
    · next hk => exact ⟨false, by rw [xr.1]; exact hct _ _ hk, (fun z => nomatch z), fun _ => p u H1 σ1 cls d rfl le R1 er1 xr⟩
    · exact p.elim
  | nx e S => rw [q] at p; exact p
  | rt x S => rw [q] at p; exact p
  | bk e S => rw [q] at p; exact p
  | ct e S => rw [q] at p; exact p
  | stuck => rw [q] at p; exact p
theorem ER.len {G : Gm} {w : Wd} : ∀ {e : Envr} {σ : L2.St}, ER G w e σ → e.length = σ.length
  | _, _, .nil => rfl
  | _, _, .non r => by rw [List.length_cons, List.length_cons, r.len]
  | _, _, .som _ r => by rw [List.length_cons, List.length_cons, r.len]
def sTryAs (ct : Str → Option Bool) (body : SF) (i j : Nat) (f : Str) (suite : SF) : SF := fun e S => match body e S with
  | .exc x e' S' => match ct x.cls with
    | some true => match x.fs with
      | some l => match l.lookup f with
        | some y => if i < e'.length then match noexc (suite ((e'.set i none).set j (some (.d y))) S') with
          | .nx e2 S2 => .nx (e2.set i none) S2
          | .bk e2 S2 => .bk (e2.set i none) S2
          | .ct e2 S2 => .ct (e2.set i none) S2
          | r => r
          else .stuck
        | none => .stuck
      | none => .stuck
    | some false => .exc x e' S'
    | none => .stuck
  | r => r
theorem DRs.look {G : Gm} {F : Hp} {f : Str} : ∀ {l : List (Str × Dat)} {us : List (Str × V)} {y : Dat}, us.map (·.1) = l.map (·.1) → DRs G F (l.map (·.2)) (us.map (·.2)) → l.lookup f = some y → ∃ v, us.lookup f = some v ∧ DR G F y v
  | [], _, _, _, _, e => by cases e
  | (a, x) :: l, [], _, h, _, _ => by simp at h
  | (a, x) :: l, (b, u) :: us, y, h, r, e => by
    simp only [List.map_cons, List.cons.injEq] at h
    obtain ⟨rfl, h⟩ := h
    cases r with | cons r1 r2 => ?_
    simp only [List.lookup_cons] at e ⊢
    split at e
    · cases e; exact ⟨u, rfl, r1⟩
    · exact DRs.look h r2 e
theorem ms_tryas {x n : Str} {cv : Value} {i j : Nat} {f y : Str} {body rest : List Stmt} {np pos pos' pos2 p3 p4 p5 : Pos} {ct : Str → Option Bool} {fb fs : SF} {C : Addr} (hs : X.stack = X.env :: X.outer) (hf : X.env.frame = some X.env.locals) (hN : X.N.Nodup) (hi : X.N[i]? = some n) (hln : X.env.kindOf n = some .local) (hc : Names X x cv) (tk : Takes X W)
    (T : XfC X.K C) (hno : PySem.W.findIn X.K (.ref C) f = some none) (hct : ∀ k b, ct k = some b → PySem.W.exmOne X.K (.ref (Γ.C k)) cv = some b ∧ (b = true → Γ.C k = C)) (hij : i ≠ j) (hj : X.N[j]? = some y) (hyl : X.env.scope.names.lookup y = some .local)
    (hb : ∀ (W' : WX) (pn : List (Addr × Obj)) (xe : Value → Shared → Prop), Takes (X.tr pn xe) W' → PassesOwn (model X.prog X.w) X.A X.env xe → SMs (X.tr pn xe) Γ W' body fb)
    (hv : ∀ (a : Addr) (pn : List (Addr × Obj)), PE (X.suite a pn) (.Name n p3) (tVar i))
    (hsu : ∀ (a : Addr) (oe : Obj) (cls : Value) (d : Option Addr) (pn : List (Addr × Obj)), Zc cls d oe → (∃ vs, oe.data = .fields vs) → SMs (X.suite a ((a, oe) :: pn)) Γ W0 rest fs)
    (hba : attributeBase (.Name n p3) f X.env (eval (.Name n p3) X.env) = eval (.Name n p3) X.env := by rfl) (hsw : swapsWith (.Attribute (.Name n p3) f p4) (some (.Name y p5)) pos2.line X.env = pure false := by rfl) :
    SM X Γ W (.Try body [.ExceptHandler (some (.Name x np)) (some n) (.Assign [.Name y p5] (.Attribute (.Name n p3) f p4) pos2 :: rest) pos'] [] [] pos) (sTryAs ct fb i j f fs) := by
  refine ps_wk (ps_try_as (i := i) (tb := fun W' => tSM (gx X Γ) W' fb) (ts := fun a cls d => tSeq (tAsg (tXf a cls d C f (tVar i)) (gName j)) (tSM (gx X Γ) W0 fs)) hs hf hN hi hln hc tk (fun W' pn xe t p => hb W' pn xe t p) fun a oe cls d pn h1 h2 =>
    pss_cons (ps_set (X := X.suite a ((a, oe) :: pn)) hN hj (.inl hyl) (pe_xf (X := X) T hno h1 h2 (hv a _) hba) hsw (.inr hyl)) (hsu a oe cls d pn h1 h2)) fun D σ H ⟨env, w, er, R, p⟩ => ?_
  refine ⟨env, w, er, R, ?_⟩
  unfold sTryAs at p
  cases q : fb env w.S with
  | exc x e' S' =>
    rw [q] at p
    dsimp only at p
    intro u H1 σ1 cls d es le R1 er1 xr
    subst es
    split at p
    · next hk =>
      have p2 := Sst.later le p
      split at p2
      · next l hl =>
        split at p2
        · next z hz =>
          obtain ⟨k1, k2⟩ := hct _ _ hk
          refine ⟨true, by rw [xr.1]; exact k1, fun _ a ha => ?_, fun z => nomatch z⟩
          obtain ⟨xc, xf⟩ := xr
          rcases xf with ⟨e1, _⟩ | ⟨l', dd, us, e1, e2, e3, e4, e5⟩
          · rw [hl] at e1; cases e1
          · rw [hl] at e1
            cases e1
            obtain ⟨v, hv1, hv2⟩ := DRs.look e4 e5 hz
            split at p2
            · next hi2 =>
              have hi' : i < σ1.length := by rw [← er1.len]; exact hi2
              refine ⟨.ref a, List.getElem?_set_self hi', rfl, by rw [xc, show (gx X Γ).C x.cls = C from k2 rfl], dd, us, v, e2, R1.sub' _ _ e3, hv1, ?_⟩
              have er2 : ER (gx X Γ) u ((e'.set i none).set j (some (.d z))) ((σ1.set i (some (.ref a))).set j (some v)) := (er1.unset i _).set (.d hv2) j
              refine ⟨_, u, er2, R1, ?_⟩
              have key : ∀ r : SRes, Sst (gx X Γ) W D u (match noexc r with
                  | .nx e2 S2 => .nx (e2.set i none) S2
                  | .bk e2 S2 => .bk (e2.set i none) S2
                  | .ct e2 S2 => .ct (e2.set i none) S2
                  | r => r) → Sst (gx X Γ) W0 { nx := fun σ' H' => D.nx (σ'.set i none) H', rt := D.rt, bk := fun σ' H' => D.bk (σ'.set i none) H', ct := fun σ' H' => D.ct (σ'.set i none) H' } u r := fun r h => by
                cases r with
                | nx e S => exact fun w' H' σ' es l R er => h w' H' _ es l R (er.unset i none)
                | rt x S => exact h
                | bk e S => exact fun w' H' σ' es l R er => h w' H' _ es l R (er.unset i none)
                | ct e S => exact fun w' H' σ' es l R er => h w' H' _ es l R (er.unset i none)
                | exc x e S => exact h.elim
                | stuck => exact h
              exact key _ p2
            · exact p2.elim
        · exact p2.elim
      · exact p2.elim
    · next hk => exact ⟨false, by rw [xr.1]; exact (hct _ _ hk).1, (fun z => nomatch z), fun _ => p u H1 σ1 cls d rfl le R1 er1 xr⟩
    · exact p.elim
  | nx e S => rw [q] at p; exact p
  | rt x S => rw [q] at p; exact p
  | bk e S => rw [q] at p; exact p
  | ct e S => rw [q] at p; exact p
  | stuck => rw [q] at p; exact p
end
end Z
set_option Elab.async false
set_option linter.all false
set_option maxRecDepth 100000
set_option maxHeartbeats 4000000
namespace Z
open PySem L2 Evl NdefX LamX PyProof.Rows
/-! ## a def that a def returns -/
/-- the cells κ are told, as they stand -/
def layC (h : Heap) (κ : List Addr) (H : Hp) : Hp := fun a => if a ∈ κ then (h.get? a).map (fun o => HO.frz o (.own 0)) else H a
section
variable {P : Program} {wd : World} {H H0 H1 H2 : Hp} {h h0 : Heap} {κ : List Addr} {fs : List Addr}
theorem layC_ne {a : Addr} (n : a ∉ κ) : layC h κ H a = H a := if_neg n
theorem layC_in {a : Addr} {o : Obj} (m : a ∈ κ) (e : h.get? a = some o) : layC h κ H a = some (.frz o (.own 0)) := by
  unfold layC; rw [if_pos m, e]; rfl
theorem layC_ex (n : ∀ a ∈ κ, H a = none) : Ex H (layC h κ H) := fun b o e => by
  rw [layC_ne (fun m => by rw [n b m] at e; cases e)]; exact e
theorem layC_ok (n : ∀ a ∈ κ, H a = none) (x : HOk P wd H h) : HOk P wd (layC h κ H) h := fun b o e => by
  by_cases m : b ∈ κ
  · unfold layC at e
    rw [if_pos m] at e
    cases q : h.get? b with
    | none => rw [q] at e; cases e
    | some ob => rw [q] at e; cases e; exact ⟨q, ob, q⟩
  · rw [layC_ne m] at e
    exact (x b o e).stay (fun _ _ _ z => z) (fun c z => layC_ex n _ _ z) fun c xs z => layC_ex n _ _ z
theorem layC_un (n : ∀ a ∈ κ, H a = none) (lo : ∀ a ∈ κ, h0.objs.size ≤ a) (u : Un fs [] H0 H h0 h) : Un fs [] H0 (layC h κ H) h0 h :=
  ⟨u.keep, u.slot, fun b o e z hx => by rw [layC_ne (fun m => absurd (Heap.lt_size e) (Nat.not_lt.mpr (lo b m)))]; exact u.free b o e z hx, u.there,
    fun b xs e => layC_ex n _ _ (u.tups b xs e), fun b o y e => layC_ex n _ _ (u.frzs b o y e), fun b ps e => by obtain ⟨m, q⟩ := u.tbls b ps e; exact ⟨m, layC_ex n _ _ q⟩⟩
end
section
variable {G : Gm} {w : Wd} {H H1 H2 : Hp}
theorem RepK.nt1 {κ : Nat → List Addr} {i : Nat} {c : Cell} (R : RepK G w H κ) (h : live w.S i c) : ∃ o, H (w.ρ i) = some o ∧ ∀ ps, o ≠ .tbl ps := by
  have q := R.cell i c h
  cases c with
  | lst l => obtain ⟨_, h, _⟩ := q; exact ⟨_, h, fun _ z => by cases z⟩
  | dct l => obtain ⟨_, h, _⟩ := q; exact ⟨_, h, fun _ z => by cases z⟩
  | ins c l => obtain ⟨_, _, h, _⟩ := q; exact ⟨_, h, fun _ z => by cases z⟩
  | clo id l =>
    obtain ⟨st, cl, c', _, r⟩ := q
    exact ⟨_, R.xs _ _ r.fn, fun _ z => by unfold FnO at z; cases z⟩
theorem ext_nt {o : HO} (h : isExt o = true) : ∀ ps, o ≠ .tbl ps := fun ps z => by subst z; cases h
theorem firm_nt {o : HO} (h : firmHO o = true) : ∀ ps, o ≠ .tbl ps := fun ps z => by subst z; cases h
/-- the world behind the making of a def -/
def Wd.mkclo (w : Wd) (f c' : Addr) (H1 : Hp) (id : Nat) (l : List Val) : Wd := { w.push f (.clo id l) with X := fun a => if a = f ∨ a = c' then H1 a else w.X a }
theorem Rep.clo {f c' : Addr} {id : Nat} {l : List Val} {κ : List Addr} {st : CloSt} {cl : List (Str × Addr)} (R : Rep G w H) (e1 : ExtN H H1) (nb : ∀ b, H1 b = none → H b = none) (T1 : TabsN G.tabs H1) (hf : H f = none)
    (h1 : H1 f = some (FnO f (st.nf cl c'))) (h2 : H1 c' = some (CodeO c' (st.nf cl c').qual)) (e2 : Ex H1 H2) (hκ : ∀ c ∈ κ, H1 c = none) (hc : G.clo id = some st) (mem : ∀ x c, cl.lookup x = some c → c ∈ κ) (fcl : (st.nf cl c').cl = cl) (fc : (st.nf cl c').c = c')
    (inj : ∀ x y c, cl.lookup x = some c → cl.lookup y = some c → x = y) (caps : Caps G w H2 cl κ st.fr l) : Le w (w.mkclo f c' H1 id l) ∧ Rep G (w.mkclo f c' H1 id l) H2 := by
  have nF : ∀ {b}, H b = none → w.F b = none := fun e => R.noF e
  obtain ⟨κ0, R⟩ := R
  have up : ∀ {b o}, H b = some o → (∀ ps, o ≠ .tbl ps) → H2 b = some o := fun e n => e2 _ _ (e1 _ _ e n)
  have xX : Ex w.X (w.mkclo f c' H1 id l).X := fun b o e => by
    show (if b = f ∨ b = c' then H1 b else w.X b) = some o
    split
    · exact e1 _ _ (R.xs _ _ e) (ext_nt (R.xn _ _ e))
    · exact e
  have le : Le w (w.mkclo f c' H1 id l) := ⟨Ex.refl _, rfl, xX, by show _ ≤ (w.S ++ _).length; simp, fun i hi => push_ρ' (c := .clo id l) hi⟩
  have ex2 : ∀ {b o}, w.X b = some o → H2 b = some o := fun e => up (R.xs _ _ e) (ext_nt (R.xn _ _ e))
  have kp : Kp H H2 := fun b o e n => up e (firm_nt n)
  have lp : ∀ {j d}, live (w.mkclo f c' H1 id l).S j d → (j = w.S.length ∧ d = .clo id l) ∨ (j < w.S.length ∧ live w.S j d) := fun h => live_push h
  have lt : ∀ {j}, j < w.S.length → (w.mkclo f c' H1 id l).ρ j = w.ρ j := fun h => push_ρ' (c := .clo id l) h
  have ln : (w.mkclo f c' H1 id l).ρ w.S.length = f := push_ρ (c := .clo id l)
  have nl : ∀ {j d}, live w.S j d → w.ρ j ≠ f := fun hj z => by obtain ⟨u, hu, _⟩ := RepK.nt1 R hj; rw [z, hf] at hu; cases hu
  have ll : ∀ {j}, j < (w.mkclo f c' H1 id l).S.length → j = w.S.length ∨ j < w.S.length := fun {j} h => by
    have h' : j < (w.S ++ [some (Cell.clo id l)]).length := h
    rw [List.length_append, List.length_singleton] at h'
    omega
  have na : ∀ {j}, j < w.S.length → w.ρ j ≠ f := fun hj z => by obtain ⟨u, hu⟩ := R.al _ hj; rw [z, hf] at hu; cases hu
  have nO : ∀ {b}, H b = none → w.O b = none := fun {b} e => by
    cases q : w.O b with
    | none => rfl
    | some o => rw [R.os _ _ q] at e; cases e
  have kn : ∀ {j}, j < w.S.length → (if j = w.S.length then κ else κ0 j) = κ0 j := fun h => if_neg (Nat.ne_of_lt h)
  have kl : (if w.S.length = w.S.length then κ else κ0 w.S.length) = κ := if_pos rfl
  have cp : ∀ {w' : Wd}, Le w w' → Caps G w' H2 cl κ st.fr l := fun q => caps.up q (Kp.of (Ex.refl _))
  refine ⟨le, fun j => if j = w.S.length then κ else κ0 j, fun b o e => up (R.sub _ _ e) (fun ps z => by have := R.nt b o e; subst z; cases this), fun j d hj => ?_, fun j d hj => ?_, fun j m hj hm n => ?_, fun j id' l' hj b hb => ?_, fun b o e => up (R.os _ _ e) (fun ps z => by have := R.no b o e; subst z; cases this), R.of, fun j hj => ?_, fun j id' l' hj b hb => ?_,
    tabs_ex e2 T1, fun b o e => ?_, fun b o e => ?_, fun j id' l' hj b hb m hm => ?_, fun j m id1 l1 id2 l2 hj hm n b hb => ?_, R.nt, R.no, fun j hj => ?_⟩
  · show w.F _ = none
    rcases lp hj with ⟨rfl, _⟩ | ⟨h, q⟩
    · rw [ln]; exact nF hf
    · rw [lt h]; exact R.free j d q
  · skip
    rcases lp hj with ⟨rfl, rfl⟩ | ⟨h, q⟩
    · rw [ln, kl]
      refine ⟨st, cl, c', hc, ⟨_, e2 _ _ h1⟩, ?_, ?_, mem, fcl, fc, inj, cp le⟩
      · show (if f = f ∨ f = c' then H1 f else w.X f) = _
        rw [if_pos (.inl rfl)]; exact h1
      · show (if c' = f ∨ c' = c' then H1 c' else w.X c') = _
        rw [if_pos (.inr rfl)]; exact h2
    · rw [lt h, kn h]
      obtain ⟨o, ho, n⟩ := RepK.nt1 R q
      exact (R.cell j d q).up le kp ((up ho n).trans ho.symm)
  · rcases ll hj with rfl | h <;> rcases ll hm with rfl | h'
    · exact absurd rfl n
    · rw [ln, lt h']; exact (na h').symm
    · rw [ln, lt h]; exact na h
    · rw [lt h, lt h']; exact R.inj _ _ h h' n
  · skip
    show w.F b = none
    rcases lp hj with ⟨rfl, _⟩ | ⟨h, q⟩
    · rw [kl] at hb; exact nF (nb _ (hκ b hb))
    · rw [kn h] at hb; exact R.kf j id' l' q b hb
  · show w.O _ = none
    rcases ll hj with rfl | h
    · rw [ln]; exact nO hf
    · rw [lt h]; exact R.ol j h
  · skip
    show w.O b = none
    rcases lp hj with ⟨rfl, _⟩ | ⟨h, q⟩
    · rw [kl] at hb; exact nO (nb _ (hκ b hb))
    · rw [kn h] at hb; exact R.ok j id' l' q b hb
  · have e' : (if b = f ∨ b = c' then H1 b else w.X b) = some o := e
    split at e'
    · exact e2 _ _ e'
    · exact ex2 e'
  · have e' : (if b = f ∨ b = c' then H1 b else w.X b) = some o := e
    split at e'
    · next z =>
      rcases z with rfl | rfl
      · rw [h1] at e'; cases e'; rfl
      · rw [h2] at e'; cases e'; rfl
    · exact R.xn _ _ e'
  · skip
    rcases lp hj with ⟨rfl, _⟩ | ⟨h, q⟩ <;> rcases ll hm with rfl | h'
    · rw [kl] at hb
      rw [ln]
      intro z
      have := hκ b hb
      rw [z, h1] at this; cases this
    · rw [kl] at hb
      rw [lt h']
      intro z
      obtain ⟨o, ho⟩ := R.al _ h'
      have := nb _ (hκ b hb)
      rw [z, ho] at this; cases this
    · rw [kn h] at hb
      rw [ln]
      intro z
      obtain ⟨o, ho, _⟩ := R.kH q hb
      rw [z, hf] at ho; cases ho
    · rw [kn h] at hb
      rw [lt h']; exact R.kr j id' l' q b hb m h'
  · skip
    rcases lp hj with ⟨rfl, _⟩ | ⟨h, q⟩ <;> rcases lp hm with ⟨rfl, _⟩ | ⟨h', q'⟩
    · exact absurd rfl n
    · rw [kl] at hb
      rw [kn h']
      intro z
      obtain ⟨o, ho, _⟩ := R.kH q' z
      rw [nb _ (hκ b hb)] at ho; cases ho
    · rw [kn h] at hb
      rw [kl]
      intro z
      obtain ⟨o, ho, _⟩ := R.kH q hb
      rw [nb _ (hκ b z)] at ho; cases ho
    · rw [kn h] at hb
      rw [kn h']; exact R.kk j m id1 l1 id2 l2 q q' n b hb
  · rcases ll hj with rfl | h
    · rw [ln]; exact ⟨_, e2 _ _ h1⟩
    · rw [lt h]
      obtain ⟨o, ho⟩ := R.al j h
      cases q : H1 (w.ρ j) with
      | none => rw [nb _ q] at ho; cases ho
      | some u => exact ⟨u, e2 _ _ q⟩
end

/-! ### the def that makes it -/
/-- a def at whose code object c stands -/
structure FunC (K : PySem.W.Frag) (x qual : Str) (st : Stmt) (f : Addr) (fd : FuncData) (c : Addr) : Prop where
  ex : ∃ (oc : Value) (od : Option Addr) (kV doc pm : Value) (an : Option Addr) (ct : Value) (osl : Array (Option Value)),
    fd = PySem.W.fnOf x qual (defArgs st) (defBody st) (defScope st) .none kV doc pm an (.ref c) ct ∧ K.lookup f = some ⟨oc, od, .func fd, osl⟩ ∧ PySem.W.codeIn K (.ref c) qual = true
/-- what its maker comes to -/
def fnC (np id : Nat) : VF := fun xs S => if xs.length = np then .ok (.ref S.length) (S ++ [some (.clo id xs)]) else .stuck
theorem vrs_caps {G : Gm} {w : Wd} {H : Hp} {cl : List (Str × Addr)} : ∀ {ps : List Str} {xs : List Val} {vs : List V}, VRs G w xs vs → ps.length = vs.length → (∀ (i : Nat) (y : Str) (v : V), ps[i]? = some y → vs[i]? = some v → ∃ c o, cl.lookup y = some c ∧ H c = some o ∧ IsCellO v o) →
    Caps G w H cl (ps.map fun y => (cl.lookup y).getD 0) ps xs
  | [], _, _, .nil, _, _ => .nil
  | [], _, _, .cons _ _, h, _ => by simp at h
  | _ :: _, _, _, .nil, h, _ => by simp at h
  | y :: ps, _, _, .cons (v := v) r rs, h, k => by
    obtain ⟨c, o, h1, h2, h3⟩ := k 0 y v rfl rfl
    show Caps G w H cl ((cl.lookup y).getD 0 :: ps.map fun y => (cl.lookup y).getD 0) (y :: ps) _
    rw [h1]
    exact .cons h1 h2 h3 r (vrs_caps rs (by simpa using h) fun i y v e1 e2 => k (i + 1) y v (by simpa using e1) (by simpa using e2))
theorem VR.newC {G : Gm} {w : Wd} {f c' : Addr} {H1 : Hp} {id : Nat} {l : List Val} : VR G (w.mkclo f c' H1 id l) (.ref w.S.length) (.ref f) := by
  have e : (w.mkclo f c' H1 id l).ρ w.S.length = f := push_ρ (c := .clo id l)
  have h : VR G (w.mkclo f c' H1 id l) (.ref w.S.length) (.ref ((w.mkclo f c' H1 id l).ρ w.S.length)) := .ref (by show _ < (w.S ++ _).length; simp)
  rwa [e] at h
section
variable {P : Program} {wd : World} {K : PySem.W.Frag} {mg : Str → Option Value} {base : Heap} {n : Nat} {f : Addr} {fd : FuncData} {N ps : List Str}
theorem fnd_clo {x qual it : Str} {st ist : Stmt} {c Pt : Addr} {nm : Nat → Nat → Str} {i id : Nat} {p1 p2 p3 : Pos} {C : Str → Addr} {clo : Nat → Option CloSt} {tabs : List NTab} (F : FunC K x qual st f fd c) (S : FnScope N ps (defScope st))
    (hbd : defBody st = [ist, .Return (some (.Name it p1)) p2]) (hist : ist = .FunctionDef it (C8.fnArgs ist) (C8.fnBody ist) [] none [] (C8.fnScope ist) none it p3) (TB : TabB base mg c Pt) (hm : (Pt, nm) ∈ tabs) (hn : nm p3.line p3.col = qual ++ ".<locals>." ++ it)
    (hu : ∀ p ∈ tabs, p.1 = Pt → p.2 = nm) (hB : ndefB (defScope st) (C8.fnScope ist) ps = true) (hall : ∀ y ∈ (C8.fnScope ist).names, y.2 = .free → y.1 ∈ ps) (hd0 : (C8.fnArgs ist).defaults = []) (hk0 : (C8.fnArgs ist).kw_defaults = []) (ha : ∀ env, annTrees (C8.fnArgs ist) none env = [])
    (hi : N[i]? = some it) (hil : (defScope st).names.lookup it = some .local) (hip : ps.length ≤ i) (hdb : (it == ("__debug__" : Str)) = false) (hcd' : (it == ("__classdict__" : Str)) = false) (hc : clo id = some ⟨NF.of ist it (qual ++ ".<locals>." ++ it), ps⟩) :
    FnD P wd K mg base (n + 1) f fd ps (spM ⟨K, C, clo, tabs⟩ (fnC ps.length id)) := by
  obtain ⟨oc, od, kV, doc, pm, an, ct, osl, rfl, lk, hcd⟩ := F.ex
  have len : ∀ vs H Q E, spM ⟨K, C, clo, tabs⟩ (fnC ps.length id) vs H Q E → vs.length = ps.length := fun vs H Q E ⟨xs, w, r, R, p⟩ => by
    rw [← r.len]
    unfold fnC at p
    split at p
    · assumption
    · exact p.elim
  refine ⟨len, fun A outer s H a us vs Q E hr e0 bd r hsp => ?_⟩
  have hl := len _ _ _ _ hsp
  have KX : K.In s.heap := e0.mod.kin.keeps fun b o e => (e0.bs b o e).1
  have lim : s.heap.NoLimit := e0.mod.nolimit.keeps fun b o e => (e0.bs b o e).1
  have kinds : ∀ y ∈ ps.zip us, (defScope st).names.lookup y.1 = some .local ∨ ((defScope st).names.lookup y.1 = some .cell ∧ ((cellsFrom (s.heap.objs.size + 1) (defScope st).names []).lookup y.1).isSome = true) := fun y hy => by
    rcases S.par y.1 (List.of_mem_zip hy).1 with q | q
    · exact .inl q
    · exact .inr ⟨q, PySem.W.cellsFrom_some _ _ _ (.inl q)⟩
  have dpt : A.depth < recursionLimit := by have := hr.dp; omega
  refine codeAny_call_function dpt (KX _ _ lk) rfl S.co S.gen rfl (PySem.W.codeRec_of KX hcd) (bd _ _ _ _ ?_)
  refine wpAny_newFunctionEnv_cells S.kind kinds fun env he s1 x => ?_
  subst he
  refine ⟨lim.keeps x.toInCall.keep, codeAny_func ?_⟩
  have I0 := inv_start (CX := L2.CX P wd) (cd := .ref c) (f := f) (qual := qual) (E := E) S hr.hd e0 hl r x
  obtain ⟨xs, w, rx, R, p⟩ := hsp
  unfold fnC at p
  split at p
  · next hxs =>
    show wpAny _ _ (execs (defBody st) _) _ _ _
    rw [hbd]
    let X := cxOf (L2.CX P wd) P wd K mg base N qual (defScope st) f (.ref c) A outer s H E
    let mk : Addr → NF := NF.of ist it (X.env.qual ++ it) (cloFrom X.env.cells (C8.fnScope ist).names [])
    let D : Ends := { nx := fun σ H1 => ∃ f' c', σ = (L2.start N vs).set i (some (.ref f')) ∧ ExtN H H1 ∧ (∀ b, H1 b = none → H b = none) ∧ TabsN tabs H1 ∧ H f' = none ∧ H1 f' = some (FnO f' (mk c')) ∧ H1 c' = some (CodeO c' (mk c').qual), rt := fun _ _ => False }
    have hnd := (ps_ndefMS (X := X) (i := i) (T := tabs) hist TB rfl hm hn hu (ndef_free hB) hd0 hk0 (ha _) S.nd hi (.inl hil) (.inl rfl)).run [] s1 (L2.start N vs) H D I0 ⟨by obtain ⟨κ, R⟩ := R; exact R.tb, fun f' c' H1 e1 nb T1 hf h1 h2 => ⟨f', c', rfl, e1, nb, T1, hf, h1, h2⟩⟩
    refine wpAny_execs_cons (wpAny_mono hnd (fun fl s2 q => ?_) fun e s2 q => q)
    cases fl with
    | ret u => obtain ⟨_, _, _, _, _, q⟩ := q; exact q.elim
    | brk => obtain ⟨_, _, _, q⟩ := q; exact q.elim
    | cont => obtain ⟨_, _, _, q⟩ := q; exact q.elim
    | next =>
      obtain ⟨σ1, H1, I1, f', c', rfl, e1, nb, T1, hf, h1, h2⟩ := q
      have hiN : i < N.length := (List.getElem?_eq_some_iff.mp hi).1
      have hσ : ((L2.start N vs).set i (some (.ref f')))[i]? = some (some (.ref f')) := List.getElem?_set_self (by have := I1.len; rw [List.length_set] at this; rw [this]; exact hiN)
      refine wpAny_execs_cons (wpAny_Return_some (wpAny_mono ((pe_var (X := X) (pos := p1) hi (.inl hil) hdb hcd').run [] s2 _ H1 (fun v H2 => v = .ref f' ∧ H2 = H1) I1 ⟨.ref f', hσ, rfl, rfl⟩) (fun u s3 q => ?_) fun e s3 q => q))
      obtain ⟨v, H2, I2, rv, rfl, rfl⟩ := q
      let cl : List (Str × Addr) := cloFrom X.env.cells (C8.fnScope ist).names []
      let κ : List Addr := ps.map fun y => (cl.lookup y).getD 0
      have hpl : ps.length ≤ N.length := by have := congrArg List.length S.pre; rw [List.length_take] at this; omega
      have hNp : ∀ j, j < ps.length → N[j]? = ps[j]? := fun j hj => by rw [← List.getElem?_take_of_lt (l := N) hj, S.pre]
      have js : (List.range ps.length).map (fun j => X.N[j]?) = ps.map some := by
        refine List.ext_getElem? fun j => ?_
        rw [List.getElem?_map, List.getElem?_map]
        by_cases hj : j < ps.length
        · rw [List.getElem?_range hj]
          show some (N[j]?) = _
          rw [hNp j hj, List.getElem?_eq_getElem hj]; rfl
        · rw [List.getElem?_eq_none (by simpa using hj), List.getElem?_eq_none (by simpa using hj)]; rfl
      have cp : NdefX.Caps X cl ps (List.range ps.length) := NdefX.Caps.made I2.ok (ndef_free hB) (ndef_fr hB) js
      have CA := cells_of I2 cp
      have mem : ∀ y a, cl.lookup y = some a → a ∈ κ := fun y a e => by
        refine List.mem_map.mpr ⟨y, ?_, by rw [e]; rfl⟩
        rcases cloFrom_mem (PySem.mem_of_lookup e) with hm | ⟨h1, _⟩
        · cases hm
        · exact hall _ h1 rfl
      have lks : ∀ y ∈ ps, ∃ a, cl.lookup y = some a := fun y hy => by
        obtain ⟨i, hi⟩ := List.mem_iff_getElem?.mp hy
        obtain ⟨a, ha, _⟩ := CA.has i y hi
        exact ⟨a, ha⟩
      have hκ : ∀ a ∈ κ, H2 a = none := fun a hm => by
        obtain ⟨y, hy, rfl⟩ := List.mem_map.mp hm
        obtain ⟨a, ha⟩ := lks y hy
        rw [ha]
        exact (CA.all y a ha).1
      have lo : ∀ a ∈ κ, s.heap.objs.size ≤ a := fun a hm => by
        obtain ⟨y, hy, rfl⟩ := List.mem_map.mp hm
        obtain ⟨a, ha⟩ := lks y hy
        rw [ha]
        exact I2.ok.cab y a rfl (cp.sub y a ha)
      have caps : Caps ⟨K, C, clo, tabs⟩ w (layC s3.heap κ H2) cl κ ps xs := vrs_caps rx hl.symm fun j y v ey ev => by
        obtain ⟨a, ha, hv⟩ := CA.has j y ey
        have hj : j < ps.length := (List.getElem?_eq_some_iff.mp ey).1
        obtain ⟨u, ru, o, ho, hd⟩ := hv v (by
          rw [List.getElem?_map, List.getElem?_range hj]
          refine congrArg some (slotAt_of ?_)
          rw [List.getElem?_set_ne (by omega)]
          unfold L2.start
          rw [List.getElem?_append_left (by rw [List.length_map]; omega), List.getElem?_map, ev]; rfl)
        exact ⟨a, _, ha, layC_in (mem y a ha) ho, o, u, rfl, hd, ru⟩
      obtain ⟨le, R2⟩ := Rep.clo (st := ⟨NF.of ist it (qual ++ ".<locals>." ++ it), ps⟩) (l := xs) R e1 nb T1 hf h1 h2 (layC_ex hκ) hκ hc mem rfl rfl CA.inj caps
      exact ⟨.ref f', layC s3.heap κ H2, I2.os, I2.bare, layC_un hκ lo I2.base, layC_ok hκ I2.hok, rv, p _ _ _ rfl le R2 VR.newC⟩
  · exact p.elim
end
end Z
set_option Elab.async false
set_option linter.all false
set_option maxRecDepth 100000
set_option maxHeartbeats 4000000
namespace Z
open PySem L2 Evl NdefX LamX PyProof.Rows
/-! ## calls of a def that a def has returned -/
/-- the abstract heap without the cells cs -/
def hid (cs : List Addr) (H : Hp) : Hp := fun a => if a ∈ cs then none else H a
def Told (cs : List Addr) (H : Hp) : Prop := ∀ c ∈ cs, ∃ ob, H c = some (.frz ob (.own 0))
/-- the cells of H are told again -/
def bck (cs : List Addr) (H H' : Hp) : Hp := fun a => if a ∈ cs then H a else H' a
section
variable {P : Program} {wd : World} {H H' : Hp} {h h' B : Heap} {a : Addr} {o : HO} {cs fs : List Addr}
theorem hid_ne (n : a ∉ cs) : hid cs H a = H a := if_neg n
theorem hid_in (m : a ∈ cs) : hid cs H a = none := if_pos m
theorem hid_some (e : hid cs H a = some o) : a ∉ cs ∧ H a = some o := by
  by_cases m : a ∈ cs
  · rw [hid_in m] at e; cases e
  · rw [hid_ne m] at e; exact ⟨m, e⟩
theorem Told.out (T : Told cs H) (e : H a = some o) (n : ∀ ob u, o ≠ .frz ob u) : a ∉ cs := fun m => by
  obtain ⟨ob, q⟩ := T a m
  rw [e] at q
  exact n _ _ (Option.some.inj q)
theorem hid_keep (T : Told cs H) (e : H a = some o) (n : ∀ ob u, o ≠ .frz ob u) : hid cs H a = some o := by rw [hid_ne (T.out e n)]; exact e
theorem hid_obj (T : Told cs H) : ∀ (o : HO), ObjOk P wd H h a o → ObjOk P wd (hid cs H) h a o
  | .lst _, x => x
  | .tup _, x => x
  | .dK _, x => x
  | .dT _, x => by
    obtain ⟨h1, h2, xs, p, r⟩ := x
    exact ⟨h1, h2, xs, Paired.mapP p fun a b q => ⟨q.1, hid_keep T q.2.1 (by intro ob u z; cases z), q.2.2⟩, r⟩
  | .set _ _, x => x
  | .ins _ _ _, x => ⟨hid_keep T x.1 (by intro ob u z; cases z), x.2⟩
  | .own _, x => x
  | .xd _, x => x
  | .rng _ _, x => x
  | .frz _ u, x => ⟨x.1, hid_obj T u x.2⟩
  | .tbl _, x => x
  | .met _ _, x => x
  | .ext _, x => x
theorem hid_ok (T : Told cs H) (x : HOk P wd H h) : HOk P wd (hid cs H) h := fun b u e => hid_obj T u (x b u (hid_some e).2)
theorem bck_in (m : a ∈ cs) : bck cs H H' a = H a := if_pos m
theorem bck_ne (n : a ∉ cs) : bck cs H H' a = H' a := if_neg n
theorem bck_ex (un : ∀ c ∈ cs, H' c = none) : Ex H' (bck cs H H') := fun b o e => by
  rw [bck_ne (fun m => by rw [un b m] at e; cases e)]; exact e
/-- what was kept of the heap suffices -/
theorem bck_ok (T : Told cs H) (ok : HOk P wd H h) (tk : ∀ c ∈ cs, ∀ o, h.get? c = some o → B.get? c = some o) (un : ∀ c ∈ cs, H' c = none) (ok' : HOk P wd H' B) : HOk P wd (bck cs H H') B := fun b o e => by
  by_cases m : b ∈ cs
  · rw [bck_in m] at e
    obtain ⟨ob, q⟩ := T b m
    rw [q] at e; cases e
    have hb := (ok b _ q).1
    exact ⟨tk b m _ hb, ob, tk b m _ hb⟩
  · rw [bck_ne m] at e
    exact (ok' b o e).stay (fun _ _ _ q => q) (fun c q => bck_ex un _ _ q) fun c xs q => bck_ex un _ _ q
theorem told_get (T : Told cs H) (ok : HOk P wd H h) {c : Addr} (m : c ∈ cs) : ∃ ob, h.get? c = some ob := by
  obtain ⟨ob, q⟩ := T c m
  exact ⟨ob, (ok c _ q).1⟩
theorem told_no (T : Told cs H) (e : H a = none) : a ∉ cs := fun m => by obtain ⟨ob, q⟩ := T a m; rw [e] at q; cases q
theorem bck_un (T : Told cs H) (ok : HOk P wd H h) (nf : ∀ c ∈ cs, c ∉ fs) (u : Un fs [] (hid cs H) H' h h') (ok' : HOk P wd H' h') : Un fs [] H (bck cs H H') h h' ∧ HOk P wd (bck cs H H') h' ∧ ∀ c ∈ cs, H' c = none := by
  have tk : ∀ c ∈ cs, ∀ o, h.get? c = some o → h'.get? c = some o := fun c m o e => u.keep c o e (hid_in m) (nf c m) (by simp)
  have un : ∀ c ∈ cs, H' c = none := fun c m => by
    obtain ⟨ob, e⟩ := told_get T ok m
    exact u.free c ob e (hid_in m) (by simp)
  have hn : ∀ {b}, H b = none → hid cs H b = none := fun e => by rw [hid_ne (told_no T e)]; exact e
  refine ⟨⟨fun b o e n hf hx => u.keep b o e (hn n) hf hx, fun b o e n hf hx => u.slot b o e (hn n) hf hx, fun b o e n hx => by rw [bck_ne (told_no T n)]; exact u.free b o e (hn n) hx, u.there,
    fun b xs e => ?_, fun b o y e => ?_, fun b ps e => ?_⟩, bck_ok T ok tk un ok', un⟩
  · have nb := T.out e (by intro ob u z; cases z)
    rw [bck_ne nb]; exact u.tups b xs (by rw [hid_ne nb]; exact e)
  · by_cases m : b ∈ cs
    · rw [bck_in m]; exact e
    · rw [bck_ne m]; exact u.frzs b o y (by rw [hid_ne m]; exact e)
  · have nb := T.out e (by intro ob u z; cases z)
    rw [bck_ne nb]; exact u.tbls b ps (by rw [hid_ne nb]; exact e)
theorem bck_ub (T : Told cs H) (ok : HOk P wd H h) (nf : ∀ c ∈ cs, c ∉ fs) (u : UB fs (hid cs H) H' h B h') (ok' : HOk P wd H' B) : UB fs H (bck cs H H') h B h' ∧ HOk P wd (bck cs H H') B ∧ (∀ c ∈ cs, H' c = none) ∧ ∀ c ∈ cs, ∃ ob, B.get? c = some ob := by
  have tk : ∀ c ∈ cs, ∀ o, h.get? c = some o → B.get? c = some o := fun c m o e => u.keep c o e (hid_in m) (nf c m)
  have un : ∀ c ∈ cs, H' c = none := fun c m => by
    obtain ⟨ob, e⟩ := told_get T ok m
    exact u.free c ob e (hid_in m)
  have hn : ∀ {b}, H b = none → hid cs H b = none := fun e => by rw [hid_ne (told_no T e)]; exact e
  refine ⟨⟨fun b o e n hf => u.keep b o e (hn n) hf, u.slot, fun b o e n => by rw [bck_ne (told_no T n)]; exact u.free b o e (hn n), u.there,
    fun b xs e => ?_, fun b o y e => ?_, fun b ps e => ?_⟩, bck_ok T ok tk un ok', un, fun c m => ?_⟩
  · have nb := T.out e (by intro ob u z; cases z)
    rw [bck_ne nb]; exact u.tups b xs (by rw [hid_ne nb]; exact e)
  · by_cases m : b ∈ cs
    · rw [bck_in m]; exact e
    · rw [bck_ne m]; exact u.frzs b o y (by rw [hid_ne m]; exact e)
  · have nb := T.out e (by intro ob u z; cases z)
    rw [bck_ne nb]; exact u.tbls b ps (by rw [hid_ne nb]; exact e)
  · obtain ⟨ob, e⟩ := told_get T ok m
    exact ⟨ob, tk c m ob e⟩
end
section
variable {G : Gm} {w w2 : Wd} {H H' : Hp} {κ : Nat → List Addr} {j id : Nat} {ys : List Val}
theorem Caps.same {H' : Hp} {cl : List (Str × Addr)} {cs : List Addr} {fr : List Str} {l : List Val} (h : Caps G w H cl cs fr l) (k : ∀ c ∈ cs, H' c = H c) : Caps G w H' cl cs fr l := by
  induction h with
  | nil => exact .nil
  | cons h1 h2 hc h3 _ ih => exact .cons h1 ((k _ (List.mem_cons_self ..)).trans h2) hc h3 (ih fun c m => k c (List.mem_cons_of_mem _ m))
theorem CR.same {κ : List Addr} {a : Addr} : ∀ {c : Cell}, CR G w H κ a c → H' a = H a → (∀ id l, c = .clo id l → ∀ b ∈ κ, H' b = H b) → CR G w H' κ a c
  | .lst l, ⟨vs, h, r⟩, q, _ => ⟨vs, q.trans h, r⟩
  | .dct l, ⟨kvs, h, k, r⟩, q, _ => ⟨kvs, q.trans h, k, r⟩
  | .ins _ l, ⟨dx, fs, h, k, r⟩, q, _ => ⟨dx, fs, q.trans h, k, r⟩
  | .clo id l, ⟨st, cl, c', g, r⟩, q, k => ⟨st, cl, c', g, by rw [q]; exact r.at_, r.fn, r.co, r.mem, r.fcl, r.fc, r.inj, r.caps.same (k _ _ rfl)⟩
theorem CR.upw (e : Le w w2) {κ : List Addr} {a : Addr} {c : Cell} (h : CR G w H κ a c) : CR G w2 H κ a c := h.up e (.of (Ex.refl _)) rfl
theorem RepK.told (R : RepK G w H κ) (h : live w.S j (.clo id ys)) : Told (κ j) H := by
  obtain ⟨st, cl, c', _, r⟩ := R.cell j _ h
  have : ∀ {cs : List Addr} {fr : List Str} {l : List Val}, Caps G w H cl cs fr l → Told cs H := fun q => by
    induction q with
    | nil => intro c hc; cases hc
    | cons h1 h2 hc h3 _ ih =>
      intro c hm
      rcases List.mem_cons.mp hm with rfl | hm
      · obtain ⟨ob, u, rfl, _⟩ := hc; exact ⟨ob, h2⟩
      · exact ih c hm
  exact this r.caps
/-- while it runs -/
theorem RepK.hide (R : RepK G w H κ) (h : live w.S j (.clo id ys)) : RepK G { w with S := w.S.set j none } (hid (κ j) H) κ := by
  have T := R.told h
  have lv : ∀ {i d}, live (w.S.set j none) i d → i ≠ j ∧ live w.S i d := fun h => by
    rcases live_set h with ⟨_, q⟩ | q
    · cases q
    · exact q
  have ll : ∀ {i}, i < (w.S.set j none).length → i < w.S.length := fun h => by rwa [List.length_set] at h
  have out : ∀ {i}, i < w.S.length → w.ρ i ∉ κ j := fun hi m => R.kr j id ys h _ m _ hi rfl
  have ext : ∀ {b o}, H b = some o → isExt o = true → hid (κ j) H b = some o := fun e n => hid_keep T e fun ob u z => by subst z; cases n
  refine ⟨fun b o e => ?_, fun i d hi => R.free i d (lv hi).2, fun i d hi => ?_, fun i k h1 h2 => R.inj i k (ll h1) (ll h2), fun i id l hi => R.kf i id l (lv hi).2, fun b o e => ?_, R.of, fun i hi => R.ol i (ll hi), fun i id l hi => R.ok i id l (lv hi).2,
    fun p hp => ?_, fun b o e => ext (R.xs _ _ e) (R.xn _ _ e), R.xn, fun i id l hi c hc k hk => R.kr i id l (lv hi).2 c hc k (ll hk), fun i k id l id' l' h1 h2 => R.kk i k id l id' l' (lv h1).2 (lv h2).2, R.nt, R.no, fun i hi => ?_⟩
  · rw [hid_ne (fun m => by have := R.kf j id ys h b m; rw [this] at e; cases e)]; exact R.sub _ _ e
  · exact ((R.cell i d (lv hi).2).upw (Le.set none)).same (hid_ne (out (lv hi).2.lt)) fun id' l' e c hc => hid_ne fun m => R.kk i j id' l' id ys (by rw [← e]; exact (lv hi).2) h (lv hi).1 c hc m
  · rw [hid_ne (fun m => by have := R.ok j id ys h b m; rw [this] at e; cases e)]; exact R.os _ _ e
  · obtain ⟨ps, h1, h2, h3⟩ := R.tb p hp
    refine ⟨ps, hid_keep T h1 (by intro ob u z; cases z), h2, fun pos cv hc => ?_⟩
    obtain ⟨c, e1, e2⟩ := h3 pos cv hc
    exact ⟨c, e1, ext e2 rfl⟩
  · obtain ⟨o, ho⟩ := R.al i (ll hi)
    exact ⟨o, by rw [hid_ne (out (ll hi))]; exact ho⟩
/-- .. and behind it -/
theorem Rep.back (R : RepK G w H κ) (h : live w.S j (.clo id ys)) (R2 : Rep G w2 H') (le : Le { w with S := w.S.set j none } w2) (hl : w2.S.length = w.S.length) (hj : w2.S[j]? = some none) (un : ∀ c ∈ κ j, H' c = none) :
    Le w { w2 with S := w2.S.set j (some (.clo id ys)) } ∧ Rep G { w2 with S := w2.S.set j (some (.clo id ys)) } (bck (κ j) H H') := by
  have T := R.told h
  obtain ⟨st, cl, c', hc, r⟩ := R.cell j _ h
  have hjl : j < w.S.length := h.lt
  have hjl2 : j < w2.S.length := by rw [hl]; exact hjl
  have le1 : Le w w2 := (Le.set none).trans le
  have le3 : Le w2 { w2 with S := w2.S.set j (some (.clo id ys)) } := Le.set _
  have ρj : ∀ {i}, i < w.S.length → w2.ρ i = w.ρ i := fun hi => le1.ρ _ hi
  have ex := bck_ex (H := H) un
  obtain ⟨κ2, R2⟩ := R2
  have lv : ∀ {i d}, live (w2.S.set j (some (.clo id ys))) i d → (i = j ∧ d = .clo id ys) ∨ (i ≠ j ∧ live w2.S i d) := fun h => by
    rcases live_set h with ⟨a, q⟩ | q
    · exact .inl ⟨a, (Option.some.inj q).symm⟩
    · exact .inr q
  have ll : ∀ {i}, i < (w2.S.set j (some (.clo id ys))).length → i < w2.S.length := fun h => by rwa [List.length_set] at h
  have hf : H' (w.ρ j) = some (FnO (w.ρ j) (st.nf cl c')) := R2.xs _ _ (le1.X _ _ r.fn)
  have kj : (if j = j then κ j else κ2 j) = κ j := if_pos rfl
  have kn : ∀ {i}, i ≠ j → (if i = j then κ j else κ2 i) = κ2 i := fun h => if_neg h
  have out : ∀ {b}, b ∈ κ j → ∀ {i}, i < w2.S.length → b ≠ w2.ρ i := fun hb i hi => by
    rw [ρj (by rw [← hl]; exact hi)]; exact R.kr j id ys h _ hb i (by rw [← hl]; exact hi)
  have nF : ∀ {b}, H' b = none → w2.F b = none := fun {b} e => by
    cases q : w2.F b with
    | none => rfl
    | some o => rw [R2.sub _ _ q] at e; cases e
  have nO : ∀ {b}, H' b = none → w2.O b = none := fun {b} e => by
    cases q : w2.O b with
    | none => rfl
    | some o => rw [R2.os _ _ q] at e; cases e
  refine ⟨le1.trans le3, fun i => if i = j then κ j else κ2 i, R2.sub.trans ex, fun i d hi => ?_, fun i d hi => ?_, fun i k hi hk n => R2.inj i k (ll hi) (ll hk) n, fun i id' l hi b hb => ?_, R2.os.trans ex, R2.of, fun i hi => R2.ol i (ll hi), fun i id' l hi b hb => ?_,
    tabs_ex ex R2.tb, R2.xs.trans ex, R2.xn, fun i id' l hi b hb k hk => ?_, fun i k id1 l1 id2 l2 hi hk n b hb => ?_, R2.nt, R2.no, fun i hi => ?_⟩
  · rcases lv hi with ⟨rfl, _⟩ | ⟨_, q⟩
    · show w2.F (w2.ρ i) = none
      rw [ρj hjl]
      cases q : w2.F (w.ρ i) with
      | none => rfl
      | some o =>
        have z := R2.nt _ _ q
        have q' := R2.sub _ _ q
        rw [hf] at q'; cases q'; cases z
    · exact R2.free i d q
  · skip
    rcases lv hi with ⟨rfl, rfl⟩ | ⟨n, q⟩
    · show CR G _ _ (if i = i then κ i else κ2 i) (w2.ρ i) _
      rw [kj, ρj hjl]
      exact ⟨st, cl, c', hc, ⟨_, ex _ _ hf⟩, le1.X _ _ r.fn, le1.X _ _ r.co, r.mem, r.fcl, r.fc, r.inj, (r.caps.same fun c hc => bck_in hc).up (le1.trans le3) (Kp.of (Ex.refl _))⟩
    · show CR G _ _ (if i = j then κ j else κ2 i) (w2.ρ i) _
      rw [kn n]
      have q' := R2.cell i d q
      obtain ⟨o, ho⟩ := q'.some
      exact q'.up le3 (.of ex) ((ex _ _ ho).trans ho.symm)
  · have hb' : b ∈ (if i = j then κ j else κ2 i) := hb
    show w2.F b = none
    rcases lv hi with ⟨rfl, _⟩ | ⟨n, q⟩
    · rw [kj] at hb'; exact nF (un b hb')
    · rw [kn n] at hb'; exact R2.kf i id' l q b hb'
  · have hb' : b ∈ (if i = j then κ j else κ2 i) := hb
    show w2.O b = none
    rcases lv hi with ⟨rfl, _⟩ | ⟨n, q⟩
    · rw [kj] at hb'; exact nO (un b hb')
    · rw [kn n] at hb'; exact R2.ok i id' l q b hb'
  · have hb' : b ∈ (if i = j then κ j else κ2 i) := hb
    rcases lv hi with ⟨rfl, _⟩ | ⟨n, q⟩
    · rw [kj] at hb'; exact out hb' (ll hk)
    · rw [kn n] at hb'; exact R2.kr i id' l q b hb' k (ll hk)
  · have hb' : b ∈ (if i = j then κ j else κ2 i) := hb
    show b ∉ (if k = j then κ j else κ2 k)
    rcases lv hi with ⟨rfl, _⟩ | ⟨n1, q⟩ <;> rcases lv hk with ⟨rfl, _⟩ | ⟨n2, q'⟩
    · exact absurd rfl n
    · rw [kj] at hb'
      rw [kn n2]
      intro z
      obtain ⟨o, ho, _⟩ := R2.kH q' z
      rw [un b hb'] at ho; cases ho
    · rw [kn n1] at hb'
      rw [kj]
      intro z
      obtain ⟨o, ho, _⟩ := R2.kH q hb'
      rw [un b z] at ho; cases ho
    · rw [kn n1] at hb'
      rw [kn n2]; exact R2.kk i k id1 l1 id2 l2 q q' n b hb'
  · obtain ⟨o, ho⟩ := R2.al i (ll hi)
    exact ⟨o, ex _ _ ho⟩
end

/-! ### what a def made by a def promises -/
structure NFnD (P : Program) (wd : World) (K : PySem.W.Frag) (mg : Str → Option Value) (base : Heap) (n : Nat) (f : Addr) (F : NF) (ps fr : List Str) (sp : List (Option V) → Sp) : Prop where
  len : ∀ ws vs H Q E, sp ws vs H Q E → vs.length = ps.length
  go : ∀ (A : Around) (outer : List Env) (s : Shared) (H : Hp) (us : List Value) (vs : List V) (ws : List (Option V)) (Q : VK) (E : XK), Rm n A → Env0 P wd K mg base A outer s H → H f = some (FnO f F) → H F.c = some (CodeO F.c F.qual) →
    CellsAt F.cl fr ws s.heap H → Vals vs us → sp ws vs H Q E → codeAny (model P wd) A (.call (.ref f) ⟨us, []⟩) (L2.CR (L2.CX P wd) outer P wd H s Q E) s
def spN (G : Gm) (np : Nat) (g : VF) : List (Option V) → Sp := fun ws vs H Q E => ∃ xs ys w wv, xs.length = np ∧ VRs G w xs vs ∧ VRs G w ys wv ∧ ws = wv.map some ∧ Rep G w H ∧ Pst G (VR G) E w (g (xs ++ ys) w.S) Q
section
variable {P : Program} {wd : World} {K : PySem.W.Frag} {mg : Str → Option Value} {base : Heap} {n : Nat} {f : Addr} {F : NF} {N ps fr : List Str}
theorem nfnd_T {C : Str → Addr} {clo : Nat → Option CloSt} {tabs : List NTab} {body : SF} {np k : Nat} (S : NScope N ps fr F.scope) (hb : ∀ (doc pm ctv : Value) (us : List Value), us.length = ps.length → bindArgs (F.fd doc pm ctv) ⟨us, []⟩ = pure (ps.zip us)) (hp : ps.length + fr.length = np) (hk : N.length = k)
    (hbody : ∀ (A : Around) (outer : List Env) (s : Shared) (H : Hp) (E : XK), Rm n (A.deeper (envF F f s.heap.objs.size)) → SMs (ncx (L2.CX P wd) P wd K mg base N F f A outer s H E) ⟨C, clo, tabs⟩ (fun c d _ H => E c d H) F.body body) :
    NFnD P wd K mg base (n + 1) f F ps fr (spN ⟨K, C, clo, tabs⟩ ps.length (fnT np k body)) := by
  subst hp hk
  refine ⟨fun ws vs H Q E ⟨xs, ys, w, wv, h, r, _⟩ => by rw [← r.len]; exact h, fun A outer s H us vs ws Q E hr e0 hf hc Cc r ⟨xs, ys, w, wv, hx, rx, ry, ew, R, p⟩ => ?_⟩
  have hl : vs.length = ps.length := by rw [← rx.len]; exact hx
  have lim : s.heap.NoLimit := e0.mod.nolimit.keeps fun b o e => (e0.bs b o e).1
  obtain ⟨od, sl, doc, pm, ctv, ho⟩ := fnO_at e0.hok hf
  have dpt : A.depth < recursionLimit := by have := hr.dp; omega
  refine codeAny_call_function dpt ho rfl S.co S.gen rfl (codeO_at e0.hok hc) ?_
  rw [hb doc pm ctv us (by rw [← r.length]; exact hl)]
  refine wpAny_pure (wpAny_newFunctionEnv S.nocell (fun y hy => S.par y.1 (List.of_mem_zip hy).1) (fun h₁ hns hsb => ⟨lim.fresh _ hsb, ?_⟩) S.kind)
  show codeAny _ _ (.func F.body (envF F f s.heap.objs.size)) _ _
  refine codeAny_func ?_
  have kp : ∀ b o, s.heap.get? b = some o → h₁.get? b = some o := fun b o e => hsb.extBut b o (Nat.ne_of_lt (Heap.lt_size e)) (Heap.get?_push_of_some _ e)
  have I : Inv (ncx (L2.CX P wd) P wd K mg base N F f A outer s H E) [] (startF N vs ws) H { s with heap := h₁, toks := s.toks + (ps.zip us).length } := inv_startN S hr.hd e0 hl r Cc hns kp
  have yl : ys.length = fr.length := by rw [ry.len]; have := Cc.len; rw [ew, List.length_map] at this; exact this
  have er : (xs ++ ys).length = ps.length + fr.length → ER ⟨K, C, clo, tabs⟩ w ((xs ++ ys).map some ++ List.replicate (N.length - (ps.length + fr.length)) none) (startF N vs ws) := fun _ => by
    unfold startF
    rw [ew, List.map_append, List.append_assoc, List.length_map, hl, ← ry.len, yl, Nat.sub_sub]
    exact (ER.vals rx).app ((ER.vals ry).app (ER.nones _))
  refine wpAny_mono ((hbody A outer s H E (hr.deep _)).run [] _ (startF N vs ws) H { nx := fun _ H' => Q .non H', rt := Q } I (fnT_body R er p)) (fun fl s' hs => ?_) fun e s' hs => hs
  cases fl with
  | ret u => obtain ⟨v, _, H', J, rv, q⟩ := hs; exact ⟨v, H', J.os, J.bare, J.base, J.hok, rv, q⟩
  | next => obtain ⟨_, H', J, q⟩ := hs; exact ⟨.non, H', J.os, J.bare, J.base, J.hok, rfl, q⟩
  | brk => obtain ⟨_, _, _, q⟩ := hs; exact q.elim
  | cont => obtain ⟨_, _, _, q⟩ := hs; exact q.elim
end
theorem nfnd_stuck {P : Program} {wd : World} {K : PySem.W.Frag} {mg : Str → Option Value} {base : Heap} {n : Nat} {f : Addr} {F : NF} {ps fr : List Str} {G : Gm} : NFnD P wd K mg base n f F ps fr (spN G ps.length fun _ _ => .stuck) :=
  ⟨fun ws vs H Q E ⟨_, _, _, _, _, _, _, _, _, h⟩ => h.elim, fun _ _ _ _ _ _ _ _ _ _ _ _ _ _ _ ⟨_, _, _, _, _, _, _, _, _, h⟩ => h.elim⟩
/-! ### the call -/
/-- its cell is taken out while it runs, and put back -/
def putb (j id : Nat) (ys : List Val) (n : Nat) (S : Store) (k : Store → Res Val) : Res Val := if S.length = n then (match S[j]? with
  | some none => k (S.set j (some (.clo id ys)))
  | _ => .stuck) else .stuck
def runC (sem : Nat → VF) (j : Nat) (l : List Val) (S : Store) : Res Val := match S[j]? with
  | some (some (.clo id ys)) => (match sem id (l ++ ys) (S.set j none) with
    | .ok x S2 => putb j id ys S.length S2 (.ok x)
    | .exc x S2 => putb j id ys S.length S2 (.exc x)
    | .stuck => .stuck)
  | _ => .stuck
def isClo (S : Store) (j : Nat) : Bool := match S[j]? with
  | some (some (.clo _ _)) => true
  | _ => false
def eCallC (sem : Nat → VF) (i : Nat) (fa : AF) : EF := fun e S => match e[i]? with
  | some (some (.ref j)) => if isClo S j = true then rbind (fa e S) (runC sem j) else .stuck
  | _ => .stuck
theorem isClo_ok {S : Store} {j : Nat} (h : isClo S j = true) : ∃ id ys, live S j (.clo id ys) := by
  unfold isClo at h
  split at h
  · next id ys q => exact ⟨id, ys, q⟩
  · cases h
/-- what the cells hold -/
theorem RepK.cells {P : Program} {wd : World} {G : Gm} {w : Wd} {H : Hp} {κ : Nat → List Addr} {j id : Nat} {ys : List Val} {h : Heap} (R : RepK G w H κ) (ok : HOk P wd H h) (hl : live w.S j (.clo id ys)) :
    ∃ st cl c' wv, G.clo id = some st ∧ H (w.ρ j) = some (FnO (w.ρ j) (st.nf cl c')) ∧ H c' = some (CodeO c' (st.nf cl c').qual) ∧ (st.nf cl c').c = c' ∧ w.ρ j ∉ κ j ∧ c' ∉ κ j ∧ VRs G w ys wv ∧ CellsAt (st.nf cl c').cl st.fr (wv.map some) h (hid (κ j) H) := by
  have T := R.told hl
  obtain ⟨st, cl, c', hc, r⟩ := R.cell j _ hl
  have hf := R.xs _ _ r.fn
  have hco := R.xs _ _ r.co
  have key : ∀ {cs : List Addr} {fr : List Str} {l : List Val}, Caps G w H cl cs fr l → (∀ c ∈ cs, ∃ v, h.IsCell c v) ∧ ∃ wv, VRs G w l wv ∧ wv.length = fr.length ∧ ∀ (i : Nat) (y : Str), fr[i]? = some y → ∃ c, cl.lookup y = some c ∧ ∀ v, (wv.map some)[i]? = some (some v) → ∃ u, L2.RelV v u ∧ h.IsCell c (some u) := fun q => by
    induction q with
    | nil => exact ⟨fun c hc => (by cases hc), [], .nil, rfl, fun i y e => (by simp at e)⟩
    | @cons x c o v y cs fr l h1 h2 hcell h3 _ ih =>
      obtain ⟨i1, wv, i2, i3, i4⟩ := ih
      obtain ⟨ob, u, rfl, hd, ru⟩ := hcell
      have ho := (ok c _ h2).1
      refine ⟨fun c' hc' => ?_, v :: wv, .cons h3 i2, by simp [i3], fun i y' e => ?_⟩
      · rcases List.mem_cons.mp hc' with rfl | hc'
        · exact ⟨_, ob, ho, hd⟩
        · exact i1 c' hc'
      · cases i with
        | zero =>
          simp only [List.getElem?_cons_zero, Option.some.injEq] at e
          subst e
          exact ⟨c, h1, fun v' ev => by
            simp only [List.map_cons, List.getElem?_cons_zero, Option.some.injEq] at ev
            subst ev
            exact ⟨u, ru, ob, ho, hd⟩⟩
        | succ i =>
          obtain ⟨c2, j1, j2⟩ := i4 i y' (by simpa using e)
          exact ⟨c2, j1, fun v' ev => j2 v' (by simpa using ev)⟩
  obtain ⟨k1, wv, k2, k3, k4⟩ := key r.caps
  refine ⟨st, cl, c', wv, hc, hf, hco, r.fc, T.out hf (by intro ob u z; unfold FnO at z; cases z), T.out hco (by intro ob u z; unfold CodeO at z; cases z), k2, ?_⟩
  rw [r.fcl]
  exact ⟨by rw [List.length_map]; exact k3, fun y c e => ⟨hid_in (r.mem y c e), k1 c (r.mem y c e)⟩, r.inj, k4⟩

/-- every def that a def may have made keeps its promise -/
def CloF (P : Program) (wd : World) (K : PySem.W.Frag) (mg : Str → Option Value) (base : Heap) (n : Nat) (G : Gm) (sem : Nat → VF) : Prop := ∀ id st, G.clo id = some st → ∃ ps : List Str,
  (∀ (l ys : List Val) (S : Store), l.length ≠ ps.length → ys.length = st.fr.length → sem id (l ++ ys) S = .stuck) ∧ ∀ f cl c', NFnD P wd K mg base n f (st.nf cl c') ps st.fr (spN G ps.length (sem id))
theorem fnT_len {np N a b : Nat} {body : SF} (h : a + b = np) : ∀ (l ys : List Val) (S : Store), l.length ≠ a → ys.length = b → fnT np N body (l ++ ys) S = .stuck := fun l ys S h1 h2 => by
  unfold fnT
  rw [if_neg]
  rw [List.length_append]
  omega
section
variable {X : Cx} {Γ : Gr} {W : WX} {n : Nat} {x : Str} {p pos : Pos} {e : Expr} {es : List Expr} {fa : AF} {sem : Nat → VF} {i : Nat}
theorem run_c {pins : List (Addr × Obj)} {σ : L2.St} {H : Hp} {s : Shared} {Q : VK} {us : List Value} {vs : List V} {w : Wd} {j : Nat} {l : List Val} (hF : CloF X.prog X.w X.K X.mg X.base n (gx X Γ) sem) (hr : Rm n X.A) (tk : Takes X W)
    (I : Inv X pins σ H s) (r : Vals vs us) (rl : VRs (gx X Γ) w l vs) (R : Rep (gx X Γ) w H) (q : Pst (gx X Γ) (VR (gx X Γ)) (fun c d H => W c d σ H) w (runC sem j l w.S) Q) :
    wpAny (model X.prog X.w) X.A (call (.ref (w.ρ j)) us) (EP X pins σ Q) X.xe s := by
  unfold runC at q
  split at q
  · next id ys hj =>
    have hlv : live w.S j (.clo id ys) := hj
    obtain ⟨κ, R⟩ := R
    have T := R.told hlv
    obtain ⟨st, cl, c', wv, hc, hf, hco, ec, nf, nc, ry, CA⟩ := R.cells I.hok hlv
    obtain ⟨ps, hlen, F⟩ := hF id st hc
    have yl : ys.length = st.fr.length := by rw [ry.len]; have := CA.len; rw [List.length_map] at this; exact this
    have hx : l.length = ps.length := by
      by_cases h : l.length = ps.length
      · exact h
      · rw [hlen l ys _ h yl] at q; exact q.elim
    have F1 := F (w.ρ j) cl c'
    have Rh := R.hide hlv
    have nfs : ∀ c ∈ κ j, c ∉ frs X.stack := fun c m z => by
      obtain ⟨ob, e⟩ := T c m
      rw [I.env0.frf c z] at e; cases e
    have e0 : Env0 X.prog X.w X.K X.mg X.base X.A X.stack s (hid (κ j) H) := by
      have e1 := I.env0
      refine ⟨e1.frames, e1.mod, fun b o e => ⟨(e1.bs b o e).1, ?_⟩, e1.bsz, e1.funs, fun b hb => ?_, hid_ok T e1.hok, e1.bare⟩
      · rw [hid_ne (told_no T (e1.bs b o e).2)]; exact (e1.bs b o e).2
      · rw [hid_ne (told_no T (e1.frf b hb))]; exact e1.frf b hb
    have up0 : Le w { w with S := w.S.set j none } := Le.set none
    have sl : (w.S.set j none).length = w.S.length := by simp
    have hj0 : ∀ {w2 : Wd}, w2.S[j]? = some none → True := fun _ => trivial
    -- behind the call
    let Q' : VK := fun v H' => ∃ w2 y, Le { w with S := w.S.set j none } w2 ∧ Rep (gx X Γ) w2 H' ∧ VR (gx X Γ) w2 y v ∧ sem id (l ++ ys) (w.S.set j none) = .ok y w2.S
    let E' : XK := fun c d H' => ∃ w2 y, Le { w with S := w.S.set j none } w2 ∧ Rep (gx X Γ) w2 H' ∧ XR (gx X Γ) w2 y c d ∧ sem id (l ++ ys) (w.S.set j none) = .exc y w2.S
    have hsp : spN (gx X Γ) ps.length (sem id) (wv.map some) vs (hid (κ j) H) Q' E' := by
      refine ⟨l, ys, _, wv, hx, rl.up up0, ry.up up0, rfl, ⟨κ, Rh⟩, ?_⟩
      cases q2 : sem id (l ++ ys) (w.S.set j none) with
      | ok y S2 => exact fun w2 H2 v es le R2 rv => ⟨w2, y, le, R2, rv, by rw [es]; exact q2⟩
      | exc y S2 => exact fun w2 H2 c d es le R2 rv => ⟨w2, y, le, R2, rv, by rw [es]; exact q2⟩
      | stuck => rw [q2] at q; exact q.elim
    have hf' : hid (κ j) H (w.ρ j) = some (FnO (w.ρ j) (st.nf cl c')) := by rw [hid_ne nf]; exact hf
    have hc' : hid (κ j) H (st.nf cl c').c = some (CodeO (st.nf cl c').c (st.nf cl c').qual) := by rw [ec, hid_ne nc]; exact hco
    refine wpAny_call (codeAny_mono (F1.go X.A X.stack s (hid (κ j) H) us vs (wv.map some) Q' E' hr e0 hf' hc' CA r hsp) fun rr s' hq => ?_)
    -- the cell goes back
    have fin : ∀ {w2 : Wd} {H2 : Hp} {k : Store → Res Val}, Le { w with S := w.S.set j none } w2 → Rep (gx X Γ) w2 H2 → (∀ c ∈ κ j, H2 c = none) → Pst (gx X Γ) (VR (gx X Γ)) (fun c d H => W c d σ H) w (putb j id ys w.S.length w2.S k) Q →
        Le w { w2 with S := w2.S.set j (some (.clo id ys)) } ∧ Rep (gx X Γ) { w2 with S := w2.S.set j (some (.clo id ys)) } (bck (κ j) H H2) ∧ Pst (gx X Γ) (VR (gx X Γ)) (fun c d H => W c d σ H) w (k (w2.S.set j (some (.clo id ys)))) Q := fun {w2 H2 k} le R2 un z => by
      unfold putb at z
      split at z
      · next h1 =>
        split at z
        · next h2 =>
          obtain ⟨a, b⟩ := Rep.back R hlv R2 le h1 h2 un
          exact ⟨a, b, z⟩
        · exact z.elim
      · exact z.elim
    cases rr with
    | error e =>
      refine tk e s' (XE.of_call (E := fun c d H => W c d σ H) I (fun _ _ _ h => h) ?_)
      obtain ⟨a, B, H2, cls, d, rfl, fl, hok, ub, na, os, ag, w2, y, le, R2, rv, eq⟩ := hq
      obtain ⟨ub', hok', un, cB⟩ := bck_ub T I.hok nfs ub hok
      rw [eq] at q
      obtain ⟨le3, R3, p⟩ := fin le R2 un q
      have na' : a ∉ κ j := fun m => by
        obtain ⟨ob, z⟩ := cB a m
        rw [fl.2.1] at z; cases z
      refine ⟨a, B, bck (κ j) H H2, cls, d, rfl, fl, hok', ub', by rw [bck_ne na']; exact na, os, ag, ?_⟩
      exact p _ _ _ _ rfl le3 R3 (by
        obtain ⟨x1, x2⟩ := rv
        exact ⟨x1, x2⟩)
    | ok fl =>
      cases fl with
      | ret u =>
        refine I.after ?_
        obtain ⟨v, H2, os, bare, u2, hok, rv, w2, y, le, R2, rv2, eq⟩ := hq
        obtain ⟨u3, hok', un⟩ := bck_un T I.hok nfs u2 hok
        rw [eq] at q
        obtain ⟨le3, R3, p⟩ := fin le R2 un q
        exact ⟨v, bck (κ j) H H2, os, bare, u3, hok', rv, p _ _ _ rfl le3 R3 (rv2.up (Le.set _))⟩
      | next => exact hq.elim
      | brk => exact hq.elim
      | cont => exact hq.elim
  · exact q.elim
theorem runC_live {j : Nat} {l : List Val} {G : Gm} {R : Wd → Val → V → Prop} {E : XK} {w : Wd} {S : Store} {Q : VK} (p : Pst G R E w (runC sem j l S) Q) : ∃ id ys, live S j (.clo id ys) := by
  unfold runC at p
  split at p
  · next id ys h => exact ⟨id, ys, h⟩
  · exact p.elim
theorem m_callC (hF : CloF X.prog X.w X.K X.mg X.base n (gx X Γ) sem) (hr : Rm n X.A) (tk : Takes X W) (hN : X.N[i]? = some x) (hv : Vis X.env.scope x) (ha : AM X Γ W (e :: es) fa)
    (hd : (x == ("__debug__" : Str)) = false := by decide) (hcd : (x == ("__classdict__" : Str)) = false := by decide)
    (he : starEach (e :: es) X.env = (false, eval e X.env) :: starEach es X.env := by rfl) (hpl : (backTo pos (starEach es X.env)).any (·.1) = false := by rfl) :
    PM X Γ W (.Call (.Name x p) (e :: es) [] pos) (eCallC sem i fa) := by
  refine ⟨fun pins s σ H Q I ⟨env, w, er, R, q⟩ => ?_⟩
  unfold eCallC at q
  split at q
  · next j hi =>
    split at q
    · next hcl =>
      obtain ⟨id, ys, hlv⟩ := isClo_ok hcl
      obtain ⟨v, hs, rv⟩ := er.get hi
      cases rv
      refine wpAny_Call_Name_kw (thn ((pe_var (pos := p) hN hv hd hcd).run pins s σ H (fun v H1 => v = .ref (w.ρ j) ∧ H1 = H) I ⟨.ref (w.ρ j), hs, rfl, rfl⟩) fun u s1 ⟨v, H1, I1, r1, q1⟩ => ?_)
      obtain ⟨ev, eH⟩ := q1
      subst ev
      rw [eH] at I1
      obtain rfl : u = Value.ref (w.ρ j) := r1
      have fa1 : PySem.W.FnAt (w.ρ j) s1.heap := by
        obtain ⟨κ, R⟩ := R
        obtain ⟨_, _, _, _, _, hf, _⟩ := R.cells I1.hok hlv
        exact fnAt_of I1 hf
      refine PySem.W.callWith_F (first := []) fa1 (thn (ha.run pos pins s1 σ H (fun vs H2 => ∃ l u, Le w u ∧ VRs (gx X Γ) u l vs ∧ Rep (gx X Γ) u H2 ∧ Pst (gx X Γ) (VR (gx X Γ)) (fun c d H => W c d σ H) u (runC sem j l u.S) Q) I1 ⟨env, w, er, R, q.bind fun l u H2 vs le R2 r p => ⟨l, u, le, r, R2, p⟩⟩) fun us s2 ⟨vs, H2, I2, r, l, u, le, rl, R2, p⟩ => ?_) he hpl
      obtain ⟨id2, ys2, hlv2⟩ := runC_live p
      have ej : u.ρ j = w.ρ j := le.ρ j hlv.lt
      have fa2 : PySem.W.FnAt (w.ρ j) s2.heap := by
        obtain ⟨κ, R2⟩ := R2
        obtain ⟨_, _, _, _, _, hf, _⟩ := R2.cells I2.hok hlv2
        rw [← ej]
        exact fnAt_of I2 hf
      refine ⟨fa2, ?_⟩
      show wpAny _ _ (call (.ref (w.ρ j)) us) _ _ _
      rw [← ej]
      exact run_c hF hr tk I2 r rl R2 p
    · exact q.elim
  · exact q.elim
end
end Z
set_option Elab.async false
set_option linter.all false
set_option maxRecDepth 100000
set_option maxHeartbeats 4000000
namespace Z
open PySem L2 Evl NdefX LamX PyProof.Rows
theorem Rm.hu65 {n : Nat} {A : Around} (r : Rm n A) : A.units + 65 < cLine := by have := r.un; omega
/-! ## what the top has left, by names -/
def fdOf (K : PySem.W.Frag) (a : Addr) : FuncData := match K.lookup a with
  | some ⟨_, _, .func fd, _⟩ => fd
  | _ => PySem.W.fnOf "" "" ⟨[], [], none, [], [], none, []⟩ [] ⟨.function, [], false, false, []⟩ .none .none .none .none none .none .none
abbrev fa_ (K : PySem.W.Frag) (x : Str) : Addr := He.ga K x
abbrev mt_ (K : PySem.W.Frag) (C m : Str) : Addr := He.ma K (He.ga K C) m
structure DefP (K : PySem.W.Frag) (mg : Str → Option Value) (x : Str) (st : Stmt) (ps : List Str) : Prop where
  g : mg x = some (.ref (fa_ K x))
  h : Fun K x x st (fa_ K x) (fdOf K (fa_ K x))
  b : Binds K (fdOf K (fa_ K x)) ps []
structure MetP (K : PySem.W.Frag) (C m q : Str) (st : Stmt) (ps : List Str) : Prop where
  a : L2.Meth K (He.ga K C) m (mt_ K C m)
  c : L2.Cls K (He.ga K C)
  h : Fun K m q st (mt_ K C m) (fdOf K (mt_ K C m))
  b : Binds K (fdOf K (mt_ K C m)) ps []
structure IniP (K : PySem.W.Frag) (mg : Str → Option Value) (C q : Str) (st : Stmt) (ps : List Str) : Prop where
  g : mg C = some (.ref (He.ga K C))
  mk' : L2.Mk K (He.ga K C) (mt_ K C "__init__")
  h : Fun K "__init__" q st (mt_ K C "__init__") (fdOf K (mt_ K C "__init__"))
  b : Binds K (fdOf K (mt_ K C "__init__")) ps []
structure ExcP (K : PySem.W.Frag) (mg : Str → Option Value) (x : Str) : Prop where
  g : mg x = some (.ref (He.ga K x))
  xx : PySem.W.excIn K (He.ga K x) [.type "ValueError", .type "Exception", .type "BaseException", .type "object"] "ValueError.__new__" = true
  k : PySem.W.keepIn K (.ref (He.ga K x)) = true
  s : PySem.W.subIn K (.ref (He.ga K x)) (.type "BaseException") = some true
  t : PySem.W.typeIn K (.ref (He.ga K x)) = some (.type "type")
structure ErrP (K : PySem.W.Frag) (mg : Str → Option Value) (x fld q : Str) (st : Stmt) : Prop where
  e : ErrF K mg x fld (He.ga K x) (mt_ K x "__init__") (fdOf K (mt_ K x "__init__"))
  h : Fun K "__init__" q st (mt_ K x "__init__") (fdOf K (mt_ K x "__init__"))
  v : PySem.W.findCls K (.type "ValueError") (.type "type") "__init__" = some (.val (.builtin "ValueError.__init__"))
  ve : mg "ValueError" = none
theorem err_len {C : Addr} {fld : Str} : ∀ vs H Q E, spErr C fld vs H Q E → vs.length = ["self", "word", "name"].length := fun vs H Q E ⟨_, _, _, h, _⟩ => by subst h; rfl
theorem err_run {K : PySem.W.Frag} {C : Addr} {fld : Str} {vs : List V} {H : Hp} {Q : VK} {E : XK} (o : OexC K C) (no : PySem.W.findIn K (.ref C) fld = some none) (h : spErr C fld vs H Q E) :
    (tSeq (tDrop (tVeI K (tCons (tVar 0) (tCons (tVar 1) tNil)))) (tOst K fld (tVar 0) (tTup (tCons (tVar 1) (tCons (tVar 2) tNil))))) { nx := fun _ H' => Q .non H', rt := Q } (L2.start ["self", "word", "name"] vs) H := by
  obtain ⟨a, y, z, rfl, ha, h⟩ := h
  refine ⟨_, rfl, _, rfl, a, C, [y], rfl, by simp, o, ha, ?_⟩
  refine ⟨_, rfl, _, rfl, by simp [sizeLine_eq], fun p hp => ?_⟩
  have pa : a ≠ p := fun e => by rw [e, hp] at ha; cases ha
  exact ⟨_, rfl, a, C, rfl, o, no, .inl ⟨by rw [upd_ne pa]; exact ha, fun dx h1 h2 => h p dx hp h1 h2⟩⟩
def ctL (yes no : List Str) (k : Str) : Option Bool := if k ∈ yes then some true else if k ∈ no then some false else none
theorem ctL_one {x k : Str} {no : List Str} {b : Bool} (h : ctL [x] no k = some b) (e : b = true) : k = x := by
  subst e
  unfold ctL at h
  split at h
  · next m => simpa using m
  · split at h <;> cases h
theorem ctL_all {P : Str → Bool → Prop} {yes no : List Str} (h1 : ∀ k ∈ yes, P k true) (h2 : ∀ k ∈ no, P k false) : ∀ k b, ctL yes no k = some b → P k b := fun k b h => by
  unfold ctL at h
  split at h
  · next m => cases h; exact h1 k m
  · split at h
    · next m => cases h; exact h2 k m
    · cases h
/-- the classes cs have no attribute f of their own -/
def FldP (K : PySem.W.Frag) (f : Str) (cs : List Str) : Prop := ∀ c ∈ cs, L2.Cls K (He.ga K c) ∧ L2.NoAttr K (He.ga K c) f
def StrsP (K : PySem.W.Frag) (mg : Str → Option Value) (x : Str) (l : List Str) : Prop := mg x = some (.ref (He.ga K x)) ∧ ∀ H, SqT K H (He.ga K x) (l.map V.str)
def IntP (mg : Str → Option Value) (x : Str) (i : Int) : Prop := ∃ t, mg x = some (.int i t)
def StrP (mg : Str → Option Value) (x z : Str) : Prop := ∃ t, mg x = some (.str z t)
/-- the ground of a text: its classes by the module's names -/
abbrev Gz (K : PySem.W.Frag) (clo : Nat → Option CloSt) (tabs : List NTab) : Gr := ⟨He.ga K, clo, tabs⟩
section
variable {X : Cx} {Γ : Gr} {W : WX} {n : Nat} {x m : Str} {p pos apos : Pos} {e o : Expr} {es : List Expr} {g : VF} {fo : EF} {fa : AF} {st : Stmt} {ps : List Str}
theorem strs_dr {G : Gm} {F : Hp} : ∀ (l : List Str), DRs G F (l.map .str) (l.map V.str)
  | [] => .nil
  | a :: r => .cons (.str a) (strs_dr r)
theorem m_ints {i : Int} (hg : Gl X x) (h : IntP X.mg x i) (hd : (x == ("__debug__" : Str)) = false := by decide) : PM X Γ W (.Name x p) (eDat (.int i)) := by
  obtain ⟨t, h⟩ := h
  exact m_c (pe_glob (v := .int i) hg h ⟨t, rfl⟩ hd) fun _ => .int _
theorem m_strc {z : Str} (hg : Gl X x) (h : StrP X.mg x z) (hd : (x == ("__debug__" : Str)) = false := by decide) : PM X Γ W (.Name x p) (eDat (.str z)) := by
  obtain ⟨t, h⟩ := h
  exact m_c (pe_glob (v := .str z) hg h ⟨t, rfl⟩ hd) fun _ => .str _
theorem m_strs {l : List Str} (hg : Gl X x) (h : StrsP X.K X.mg x l) (hd : (x == ("__debug__" : Str)) = false := by decide) : PM X Γ W (.Name x p) (eDat (.tup (l.map .str))) :=
  m_c (pe_glob hg h.1 (v := .ref (He.ga X.K x)) rfl hd) fun F => .tup (h.2 F) (strs_dr l)
theorem m_def (T : DefP X.K X.mg x st ps) (F : FnD X.prog X.w X.K X.mg X.base n (fa_ X.K x) (fdOf X.K (fa_ X.K x)) ps (spM (gx X Γ) g)) (hr : Rm n X.A) (tk : Takes X W) (ha : AM X Γ W (e :: es) fa) (hg : Gl X x := by rfl)
    (hd : (x == ("__debug__" : Str)) = false := by decide) (he : starEach (e :: es) X.env = (false, eval e X.env) :: starEach es X.env := by rfl) (hpl : (backTo pos (starEach es X.env)).any (·.1) = false := by rfl) :
    PM X Γ W (.Call (.Name x p) (e :: es) [] pos) (eCall g fa) := m_call F hr hg T.g T.h.kp T.b tk ha hd he hpl
theorem m_def0 (T : DefP X.K X.mg x st ps) (F : FnD X.prog X.w X.K X.mg X.base n (fa_ X.K x) (fdOf X.K (fa_ X.K x)) ps (spM (gx X Γ) g)) (hr : Rm n X.A) (tk : Takes X W) (hg : Gl X x := by rfl)
    (hd : (x == ("__debug__" : Str)) = false := by decide) : PM X Γ W (.Call (.Name x p) [] [] pos) (eCall0 g) := m_call0 F hr hg T.g T.h.kp T.b tk hd
theorem m_met {C q : Str} {pl : Sem Bool} (T : MetP X.K C m q st ps) (F : FnD X.prog X.w X.K X.mg X.base n (mt_ X.K C m) (fdOf X.K (mt_ X.K C m)) ps (spM (gx X Γ) g)) (hC : Γ.C C = He.ga X.K C) (hr : Rm n X.A) (tk : Takes X W) (ho : PM X Γ W o fo) (ha : AM X Γ W (e :: es) fa)
    (hst : starEach (e :: es) X.env = (false, eval e X.env) :: starEach es X.env := by rfl) (hpl : (backTo pos (starEach es X.env)).any (·.1) = false := by rfl)
    (ht : eval (.Call (.Attribute o m apos) (e :: es) [] pos) X.env = (do
      let v ← eval o X.env
      standAt apos.atName
      let (f, l) ← holding [v] (getMethod v m pl)
      callWith pos f l (backTo pos (starEach (e :: es) X.env)) (backToKw pos (keywordEach [] X.env))) := by rfl) :
    PM X Γ W (.Call (.Attribute o m apos) (e :: es) [] pos) (eMeth C m g fo fa) := m_meth ho hC T.c T.a F hr T.b tk ha hst hpl ht
theorem m_met0 {C q : Str} {pl : Sem Bool} (T : MetP X.K C m q st ps) (F : FnD X.prog X.w X.K X.mg X.base n (mt_ X.K C m) (fdOf X.K (mt_ X.K C m)) ps (spM (gx X Γ) g)) (hC : Γ.C C = He.ga X.K C) (hr : Rm n X.A) (tk : Takes X W) (ho : PM X Γ W o fo)
    (ht : eval (.Call (.Attribute o m apos) [] [] pos) X.env = (do
      let v ← eval o X.env
      standAt apos.atName
      let (f, l) ← holding [v] (getMethod v m pl)
      callWith pos f l (backTo pos (starEach [] X.env)) (backToKw pos (keywordEach [] X.env))) := by rfl) :
    PM X Γ W (.Call (.Attribute o m apos) [] [] pos) (eMeth C m g fo aNil) := m_meth0 ho hC T.c T.a F hr T.b tk ht
/-! ### makers of instances as if they were defs -/
def mkVF (cn : Str) (g : VF) : VF := fun l S => rbind (g (.ref S.length :: l) (S ++ [some (.ins cn [])])) fun r S' => match r with
  | .d .non => .ok (.ref S.length) S'
  | _ => .stuck
def MkD (P : Program) (wd : World) (K : PySem.W.Frag) (mg : Str → Option Value) (base : Heap) (n : Nat) (G : Gm) (cn : Str) (f : Addr) (fd : FuncData) (ps : List Str) (g : VF) : Prop :=
  (∀ l S, g l S = .stuck) ∨ ∃ k gi, k + 1 ≤ n ∧ FnD P wd K mg base k f fd ps (spM G gi) ∧ g = mkVF cn gi
theorem eMake_eq (cn : Str) (gi : VF) (fa : AF) : eMake cn gi fa = eCall (mkVF cn gi) fa := rfl
theorem m_mk {C q : Str} (T : IniP X.K X.mg C q st ps) (F : MkD X.prog X.w X.K X.mg X.base n (gx X Γ) C (mt_ X.K C "__init__") (fdOf X.K (mt_ X.K C "__init__")) ps g) (hC : Γ.C C = He.ga X.K C) (hr : Rm n X.A) (tk : Takes X W) (ha : AM X Γ W (e :: es) fa) (hg : Gl X C := by rfl)
    (hd : (C == ("__debug__" : Str)) = false := by decide) (he : starEach (e :: es) X.env = (false, eval e X.env) :: starEach es X.env := by rfl) (hpl : (backTo pos (starEach es X.env)).any (·.1) = false := by rfl) :
    PM X Γ W (.Call (.Name C p) (e :: es) [] pos) (eCall g fa) := by
  rcases F with h | ⟨k, gi, hk, F, rfl⟩
  · refine ⟨fun pins s σ H Q I ⟨env, w, er, R, q⟩ => ?_⟩
    refine wpAny_Call_Name_kw (ld_glob I hg T.g ?_ hd)
    exact PySem.W.callWith_K (h₀ := X.base) I.ok.mod.kin T.mk'.kp (thn (ha.run pos pins s σ H (fun _ _ => False) I ⟨env, w, er, R, q.bind fun l u H vs le R r p => by rw [h] at p; exact p⟩) fun us s1 ⟨_, _, _, _, q⟩ => q.elim) he hpl
  · rw [← eMake_eq]
    exact m_make hC T.mk' F (hr.mono hk) hg T.g T.b tk ha hd he hpl
theorem m_mk0 {C q : Str} (T : IniP X.K X.mg C q st ps) (F : MkD X.prog X.w X.K X.mg X.base n (gx X Γ) C (mt_ X.K C "__init__") (fdOf X.K (mt_ X.K C "__init__")) ps g) (hC : Γ.C C = He.ga X.K C) (hr : Rm n X.A) (tk : Takes X W) (hg : Gl X C := by rfl)
    (hd : (C == ("__debug__" : Str)) = false := by decide) : PM X Γ W (.Call (.Name C p) [] [] pos) (eCall g aNil) := by
  rcases F with h | ⟨k, gi, hk, F, rfl⟩
  · refine ⟨fun pins s σ H Q I ⟨env, w, er, R, q⟩ => ?_⟩
    have q' : Pst (gx X Γ) (VR (gx X Γ)) (fun c d H => W c d σ H) w (g [] w.S) Q := q
    rw [h] at q'
    exact q'.elim
  · rw [← eMake_eq]
    exact m_make0 hC T.mk' F (hr.mono hk) hg T.g T.b tk hd
theorem mkd_step {P : Program} {wd : World} {K : PySem.W.Frag} {mg : Str → Option Value} {base : Heap} {G : Gm} {cn : Str} {f : Addr} {fd : FuncData} {gi : VF} (F : FnD P wd K mg base n f fd ps (spM G gi)) : MkD P wd K mg base (n + 1) G cn f fd ps (mkVF cn gi) := .inr ⟨n, gi, Nat.le_refl _, F, rfl⟩
theorem mkd_stuck {P : Program} {wd : World} {K : PySem.W.Frag} {mg : Str → Option Value} {base : Heap} {G : Gm} {cn : Str} {f : Addr} {fd : FuncData} : MkD P wd K mg base n G cn f fd ps (fun _ _ => .stuck) := .inl fun _ _ => rfl
theorem ms_rais {cn msg : Str} {j : Nat} {p2 pos2 : Pos} (hc : X.calm = true) (tk : Takes X W) (T : ExcP X.K X.mg cn) (hC : Γ.C cn = He.ga X.K cn) (hg : Gl X cn := by rfl) (hd : (cn == ("__debug__" : Str)) = false := by decide) :
    SM X Γ W (.Raise (some (.Call (.Name cn p) [.Constant (.str msg) j p2] [] pos)) none pos2) (sRaise cn) := ms_raise hc tk hC T.xx T.g T.k T.s T.t hg hd
end
/-! ### sorted(a list of numbers) -/
end Z
set_option Elab.async false
set_option linter.all false
set_option maxRecDepth 100000
set_option maxHeartbeats 4000000
namespace Z
open PySem L2 Evl NdefX LamX PyProof.Rows
section
variable {X : Cx} {Γ : Gr} {W : WX}
/-! ## sorted(numbers), list(range(n)) -/
def sortI (ns : List Int) : List Int := ns.mergeSort fun a b => decide (a ≤ b)
theorem sortI_perm (ns : List Int) : (sortI ns).Perm ns := List.mergeSort_perm _ _
theorem sortI_le (ns : List Int) : (sortI ns).Pairwise (· ≤ ·) := by
  have h := List.pairwise_mergeSort (le := fun (a b : Int) => decide (a ≤ b)) (fun a b c h1 h2 => by simp only [decide_eq_true_eq] at *; omega) (fun a b => by simp only [Bool.or_eq_true, decide_eq_true_eq]; omega) ns
  exact h.imp fun h => of_decide_eq_true h
theorem sortI_is {ns ys : List Int} (h : ys.Perm ns) (p : ys.Pairwise (· ≤ ·)) : ys = sortI ns :=
  List.Perm.eq_of_pairwise (le := (· ≤ ·)) (fun a b _ _ h1 h2 => Int.le_antisymm h1 h2) p (sortI_le ns) (h.trans (sortI_perm ns).symm)
def gSortI (live : Bool) (l : List Val) (S : Store) : Res Val := match l with
  | [x] => match lstOf S x with
    | some m => match numsOf m with
      | some ns => if ns.length < 64 then mkL live ((sortI ns).map fun n => .d (.int n)) S else .stuck
      | none => .stuck
    | none => .stuck
  | _ => .stuck
theorem gSortI_ok {b : Bool} : ClOk Γ X (rSorted X.K) (gSortI b) := fun w H l us E Q R r p => by
  unfold gSortI at p
  split at p
  · next x =>
    split at p
    · next m h =>
      split at p
      · next ns hn =>
        split at p
        · next h64 =>
          cases r with | cons rx rn => ?_
          cases rn
          obtain ⟨a, vs, rfl, hs, rv⟩ := lstOf_ok R rx h
          obtain ⟨rfl, _⟩ := nums_ok rv hn
          refine ⟨a, ns, rfl, sq_of hs, h64, fun ys q hp hw hq => ?_⟩
          rw [sortI_is hp hw]
          exact mkL_ok R (VRs.nums _) p q hq
        · exact p.elim
      · exact p.elim
    · exact p.elim
  · exact p.elim
def eListRg (live : Bool) (f : EF) : EF := fun e S => rbind (f e S) fun x S => match intOf x with
  | some j => if -1000000 ≤ j ∧ j ≤ 1000000 then mkL live (rangeV 0 j.toNat) S else .stuck
  | none => .stuck
theorem rgV_eq (n : Int) : rgV 0 n = (List.range n.toNat).map fun k => V.int (0 + (k : Nat)) := by unfold rgV; rw [Int.sub_zero]
theorem rangeV_r {G : Gm} {w : Wd} (lo : Int) (l : List Nat) : VRs G w (l.map fun k => .d (.int (lo + (k : Nat)))) (l.map fun k => V.int (lo + (k : Nat))) := by
  induction l with
  | nil => exact .nil
  | cons k r ih => exact .cons (.d (.int _)) ih
theorem m_listRg {b : Bool} {a : Expr} {p p2 pos pos2 : Pos} {f : EF} (hc : X.calm = true) (hgl : Gl X "list") (hml : X.mg "list" = none) (hg : Gl X "range") (hm : X.mg "range" = none) (h : PM X Γ W a f) (hs : starEach [a] X.env = (false, eval a X.env) :: starEach [] X.env := by rfl)
    (na : starEach [.Call (.Name "range" p) [a] [] pos] X.env = (false, eval (.Call (.Name "range" p) [a] [] pos) X.env) :: starEach [] X.env := by rfl) :
    PM X Γ W (.Call (.Name "list" p2) [.Call (.Name "range" p) [a] [] pos] [] pos2) (eListRg b f) := by
  refine pe_wk (pe_listRg hc hgl hml (prg_1 hg hm h hs) na) fun σ H Q ⟨env, w, er, R, p⟩ => ?_
  refine ⟨env, w, er, R, p.bind fun x u H v l R r p => ?_⟩
  split at p
  · next j hj =>
    obtain rfl := intOf_ok r hj
    split at p
    · next hb =>
      refine ⟨j, rfl, ⟨by omega, by omega, by omega, by omega, by omega⟩, fun q hq => ?_⟩
      rw [rgV_eq]
      exact mkL_ok R (rangeV_r 0 _) p q hq
    · exact p.elim
  · exact p.elim
end
end Z
set_option Elab.async false
set_option linter.all false
set_option maxRecDepth 100000
set_option maxHeartbeats 4000000
namespace Z
open PySem L2 Evl NdefX LamX PyProof.Rows
/-! ## the end -/
section
variable {K : PySem.W.Frag} {x q : Str} {st : Stmt} {ps : List Str} {p : He.Defn}
theorem fdOf_eq {a : Addr} {oc : Value} {od : Option Addr} {fd : FuncData} {osl : Array (Option Value)} (h : K.lookup a = some ⟨oc, od, .func fd, osl⟩) : fdOf K a = fd := by unfold fdOf; rw [h]
theorem fun_of {f : Addr} {fd : FuncData} (F : FunD K x q (defArgs st) (defBody st) (defScope st) [] [] f fd) : Fun K x q st f (fdOf K f) := by
  obtain ⟨⟨oc, od, dV, kV, doc, pm, an, cdv, ct, osl, rfl, lk, hcd, hD, _⟩, kp⟩ := F
  rw [fdOf_eq lk]
  rcases hD with ⟨_, rfl⟩ | ⟨e, _⟩
  · exact ⟨⟨oc, od, kV, doc, pm, an, cdv, ct, osl, rfl, lk, hcd⟩, kp⟩
  · exact absurd rfl e
theorem funC_of {fd : FuncData} (F : FunD K x q (defArgs st) (defBody st) (defScope st) [] [] (He.fAd K p) fd) : FunC K x q st (He.fAd K p) (fdOf K (He.fAd K p)) (He.cT K p).1 := by
  obtain ⟨⟨oc, od, dV, kV, doc, pm, an, cdv, ct, osl, rfl, lk, hcd, hD, _⟩, kp⟩ := F
  rw [fdOf_eq lk]
  obtain ⟨c, rfl⟩ := He.codeIn_ref hcd
  have e : (He.cT K p).1 = c := He.codeOf_eq lk rfl
  rw [e]
  rcases hD with ⟨_, rfl⟩ | ⟨e, _⟩
  · exact ⟨⟨oc, od, kV, doc, pm, an, ct, osl, rfl, lk, hcd⟩⟩
  · exact absurd rfl e
end
theorem funC_of2 {K : PySem.W.Frag} {x q : Str} {st : Stmt} {p : He.Defn} (F : ∃ fd, FunD K x q (defArgs st) (defBody st) (defScope st) [] [] (He.fAd K p) fd) : FunC K x q st (He.fAd K p) (fdOf K (He.fAd K p)) (He.cT K p).1 := by
  obtain ⟨fd, F⟩ := F
  exact funC_of F
/-! ### an error that has an __init__ -/
def oexB (K : PySem.W.Frag) (C : Addr) : Bool := (match K.lookup C with
  | some ⟨.type "type", _, .cls ⟨_, _, .ref C' :: bm, _, _, true, _, _, _, _, false⟩, ⟨[_, _, _, _, some (.builtin "ValueError.__new__"), _]⟩⟩ => decide (C' = C) && PySem.HandSPX.refsVE bm
  | _ => false) && (He.eqO (PySem.W.findIn K (.ref C) "__setattr__") (some (some (.builtin "object.__setattr__"))) && (decide (PySem.W.subIn K (.ref C) (.type "BaseException") = some true) && (decide (PySem.W.typeIn K (.ref C) = some (.type "type")) && PySem.W.keepIn K (.ref C))))
theorem oexB_ok {K : PySem.W.Frag} {C : Addr} (h : oexB K C = true) : OexC K C := by
  obtain ⟨h1, h⟩ := He.ba h
  obtain ⟨h2, h⟩ := He.ba h
  obtain ⟨h3, h⟩ := He.ba h
  obtain ⟨h4, h5⟩ := He.ba h
  refine ⟨?_, He.eqO_ok h2, of_decide_eq_true h3, of_decide_eq_true h4, h5⟩
  split at h1
  · next d nm bs C' bm ns q sn sub ab col k0 k1 k2 k3 k5 lk =>
    obtain ⟨a, b⟩ := He.ba h1
    obtain rfl := of_decide_eq_true a
    exact ⟨_, _, _, _, _, _, _, _, _, _, _, _, _, _, _, lk, b⟩
  · cases h1
def veB (K : PySem.W.Frag) : Bool := match PySem.W.findCls K (.type "ValueError") (.type "type") "__init__" with
  | some (.val (.builtin b)) => decide (b = "ValueError.__init__")
  | _ => false
theorem veB_ok {K : PySem.W.Frag} (h : veB K = true) : PySem.W.findCls K (.type "ValueError") (.type "type") "__init__" = some (.val (.builtin "ValueError.__init__")) := by
  unfold veB at h
  split at h
  · next b e => rw [e, of_decide_eq_true h]
  · cases h
def errB (K : PySem.W.Frag) (x fld : Str) : Bool := oexB K (He.ga K x) && (He.eqO (PySem.W.findIn K (.ref (He.ga K x)) "__init__") (some (some (.ref (mt_ K x "__init__")))) && (decide (PySem.W.typeIn K (.ref (mt_ K x "__init__")) = some (.type "function")) && (He.eqO (PySem.W.findIn K (.ref (He.ga K x)) fld) (some none) && (xfB K (He.ga K x) && veB K))))
/-! ### the tables -/
def distB (l : List Addr) : Bool := decide l.Nodup
theorem tabs_of {K : PySem.W.Frag} : ∀ {l : List NTab} {p : NTab}, (l.map (·.1)).Nodup → p ∈ l → ∀ r ∈ l, r.1 = p.1 → r.2 = p.2
  | [], _, _, h, _, _, _ => by cases h
  | a :: l, p, nd, h, r, hr, e => by
    rw [List.map_cons, List.nodup_cons] at nd
    rcases List.mem_cons.mp h with h' | h' <;> rcases List.mem_cons.mp hr with hr' | hr'
    · rw [h', hr']
    · exact absurd (List.mem_map.mpr ⟨r, hr', by rw [e, h']⟩) nd.1
    · exact absurd (List.mem_map.mpr ⟨p, h', by rw [← e, hr']⟩) nd.1
    · exact tabs_of (K := K) nd.2 h' r hr' e
/-! ### the start -/
/-- a law's promise: the script is told, the law says True -/
theorem sp_start {G : Gm} {g : VF} {H : Hp} {a : Addr} {ns : List Int} (hT : TabsN G.tabs H) (hS : SqL G.K H a (ns.map V.int)) (hg : ∃ S, g [.d (.scr ns)] [] = .ok (.d (.bl true)) S) : spM G g [.ref a] H (fun v _ => v = .bl true) fun _ _ _ => False := by
  classical
  let F : Hp := fun b => match H b with
    | some o => if isTX o = true then none else some o
    | none => none
  have hF : ∀ b o, H b = some o → isTX o = false → F b = some o := fun b o e n => by
    show (match H b with
      | some o => if isTX o = true then none else some o
      | none => none) = some o
    rw [e]
    show (if isTX o = true then none else some o) = some o
    rw [if_neg (by rw [n]; simp)]
  have hF2 : ∀ b o, F b = some o → H b = some o ∧ isTX o = false := fun b o e => by
    have e' : (match H b with
      | some o => if isTX o = true then none else some o
      | none => none) = some o := e
    split at e'
    · next o' q =>
      split at e'
      · cases e'
      · next n => cases e'; exact ⟨q, by simpa using n⟩
    · cases e'
  let w : Wd := ⟨F, fun _ => none, fun _ => none, fun _ => 0, []⟩
  have nl : ∀ {i c}, ¬ live w.S i c := fun h => by
    have := h.lt
    exact absurd this (Nat.not_lt_zero _)
  have nn : ∀ {i}, ¬ i < w.S.length := fun h => absurd h (Nat.not_lt_zero _)
  have R : Rep G w H := ⟨fun _ => [], fun b o e => (hF2 b o e).1, fun i c h => (nl h).elim, fun i c h => (nl h).elim, fun i j h => (nn h).elim, fun i id l h => (nl h).elim, fun b o e => (by cases e), fun b o e => (by cases e), fun i h => (nn h).elim, fun i id l h => (nl h).elim, hT, fun b o e => (by cases e), fun b o e => (by cases e), fun i id l h => (nl h).elim, fun i j id l id' l' h => (nl h).elim, fun b o e => (hF2 b o e).2, fun b o e => (by cases e), fun i h => (nn h).elim⟩
  have hS' : SqL G.K F a (ns.map V.int) := by
    rcases hS with (h | ⟨o, h⟩) | h
    · exact .inl (.inl (hF _ _ h rfl))
    · exact .inl (.inr ⟨o, hF _ _ h rfl⟩)
    · exact .inr h
  refine ⟨[.d (.scr ns)], w, .cons (.d (.scr hS')) .nil, R, ?_⟩
  obtain ⟨S, hg⟩ := hg
  show Pst G (VR G) _ w (g [.d (.scr ns)] []) _
  rw [hg]
  intro u H1 v es le R1 r
  cases r with | d h => cases h; rfl
theorem rm430 {A : Around} (r : Room 231 A) : Rm 430 A := ⟨r.hd, by have := r.dp; omega, by have := r.un; omega⟩
theorem fn_ok {P : Program} {wd : World} {K : PySem.W.Frag} {mg : Str → Option Value} {base : Heap} {f : Addr} {fd : FuncData} {ps : List Str} {sp : Sp} (F : FnD P wd K mg base 430 f fd ps sp) : FnOk P wd K mg base (L2.CX P wd) 231 f fd ps sp :=
  ⟨F.len, fun A outer s H a us vs Q E hr => F.go A outer s H a us vs Q E (rm430 hr)⟩
theorem cx_no {P : Program} {wd : World} {H : Hp} {s : Shared} {e : Value} {s' : Shared} : L2.CX P wd [] H s (fun _ _ _ => False) e s' → False := fun ⟨_, _, _, _, _, _, _, _, _, _, _, _, h⟩ => h

/-! ### what the top has left, from the Hook's facts -/
section
variable {K : PySem.W.Frag} {h : Heap} {mg : Str → Option Value} {x m q : Str} {st : Stmt} {ps : List Str}
def BindB (x q : Str) (st : Stmt) (ps : List Str) : Prop := ∀ (kV doc pm : Value) (an : Option Addr) (cdv ct : Value) (us : List Value), us.length = ps.length → bindArgs (PySem.W.fnOf x q (defArgs st) (defBody st) (defScope st) .none kV doc pm an cdv ct) ⟨us, []⟩ = pure (ps.zip us)
theorem defP_of (X : K.In h) (G : h.Ns mainGlobals mg) (c : (He.Fa.glo x).ok K = true) (F : ∃ fd, FunD K x x (defArgs st) (defBody st) (defScope st) [] [] (He.fAd K (x, none)) fd) (hb : BindB x x st ps) : DefP K mg x st ps := by
  obtain ⟨fd, F⟩ := F
  have F' : Fun K x x st (fa_ K x) (fdOf K (fa_ K x)) := fun_of F
  exact ⟨He.glo_ok X G c, F', F'.binds hb⟩
theorem metP_of {C : Str} (c1 : (He.Fa.meth C m).ok K = true) (c2 : (He.Fa.cls C).ok K = true) (F : ∃ fd, FunD K m q (defArgs st) (defBody st) (defScope st) [] [] (He.fAd K (C, some m)) fd) (hb : BindB m q st ps) : MetP K C m q st ps := by
  obtain ⟨fd, F⟩ := F
  have F' : Fun K m q st (mt_ K C m) (fdOf K (mt_ K C m)) := fun_of F
  exact ⟨He.meth_ok c1, He.cls_ok c2, F', F'.binds hb⟩
theorem iniP_of {C : Str} (X : K.In h) (G : h.Ns mainGlobals mg) (c : (He.Fa.glo C).ok K = true) (c1 : (He.Fa.mkr C).ok K = true) (F : ∃ fd, FunD K "__init__" q (defArgs st) (defBody st) (defScope st) [] [] (He.fAd K (C, some "__init__")) fd) (hb : BindB "__init__" q st ps) : IniP K mg C q st ps := by
  obtain ⟨fd, F⟩ := F
  have F' : Fun K "__init__" q st (mt_ K C "__init__") (fdOf K (mt_ K C "__init__")) := fun_of F
  exact ⟨He.glo_ok X G c, He.mkr_ok c1, F', F'.binds hb⟩
theorem excP_of (X : K.In h) (G : h.Ns mainGlobals mg) (c : (He.Fa.glo x).ok K = true) (c1 : (He.Fa.exc x).ok K = true) : ExcP K mg x := by
  obtain ⟨a, b, d, e⟩ := He.exc_ok c1
  exact ⟨He.glo_ok X G c, a, b, d, e⟩
theorem errP_of {fld : Str} (X : K.In h) (G : h.Ns mainGlobals mg) (c : (He.Fa.glo x).ok K = true) (c1 : (He.Fa.free "ValueError").ok K = true) (e : errB K x fld = true) (F : ∃ fd, FunD K "__init__" q (defArgs st) (defBody st) (defScope st) [] [] (He.fAd K (x, some "__init__")) fd) (hb : BindB "__init__" q st ["self", "word", "name"]) : ErrP K mg x fld q st := by
  obtain ⟨fd, F⟩ := F
  have F' : Fun K "__init__" q st (mt_ K x "__init__") (fdOf K (mt_ K x "__init__")) := fun_of F
  obtain ⟨h1, e⟩ := He.ba e
  obtain ⟨h2, e⟩ := He.ba e
  obtain ⟨h3, e⟩ := He.ba e
  obtain ⟨h4, e⟩ := He.ba e
  obtain ⟨h5, h6⟩ := He.ba e
  exact ⟨⟨He.glo_ok X G c, oexB_ok h1, He.eqO_ok h2, of_decide_eq_true h3, F'.binds hb, He.eqO_ok h4, xfB_ok h5⟩, F', veB_ok h6, He.free_ok X G c1⟩
theorem fldP_nil {f : Str} : FldP K f [] := fun c hc => by cases hc
theorem fldP_cons {f C : Str} {cs : List Str} (c1 : (He.Fa.cls C).ok K = true) (c2 : (He.Fa.noat C f).ok K = true) (r : FldP K f cs) : FldP K f (C :: cs) := fun c hc => by
  rcases List.mem_cons.mp hc with rfl | hc
  · exact ⟨He.cls_ok c1, He.noat_ok c2⟩
  · exact r c hc
def strsB (K : PySem.W.Frag) (x : Str) (l : List Str) : Bool := He.tupB K x (l.map He.Dv.str)
theorem strsP_of {l : List Str} (X : K.In h) (G : h.Ns mainGlobals mg) (c : (He.Fa.glo x).ok K = true) (e : strsB K x l = true) : StrsP K mg x l := by
  refine ⟨He.glo_ok X G c, fun H => ?_⟩
  have := He.tupB_ok e H
  rw [List.map_map] at this
  exact this
end
end Z
set_option Elab.async false
set_option linter.all false
set_option maxRecDepth 100000
set_option maxHeartbeats 4000000
namespace Z
open PySem L2 Evl NdefX LamX
/-! ## steps of mirrors -/
section
variable {e e1 : Envr} {S S1 S2 : Store} {f g : SF} {r : SRes} {x : Val} {fe : EF} {fa : AF} {tb : BF} {l : List Val}
theorem z_seq (h : f e S = .nx e1 S1) (k : g e1 S1 = r) : sSeq f g e S = r := by unfold sSeq; rw [h]; exact k
theorem z_seqR (h : f e S = .rt x S1) : sSeq f g e S = .rt x S1 := by unfold sSeq; rw [h]
theorem z_seqX {y : Exn} (h : f e S = .exc y e1 S1) : sSeq f g e S = .exc y e1 S1 := by unfold sSeq; rw [h]
theorem z_ret (h : fe e S = .ok x S1) : sRet fe e S = .rt x S1 := by unfold sRet; rw [h]; rfl
theorem z_asg {i : Nat} (h : fe e S = .ok x S1) : sAsg i fe e S = .nx (e.set i (some x)) S1 := by unfold sAsg; rw [h]; rfl
theorem z_drop (h : fe e S = .ok x S1) : sDrop fe e S = .nx e S1 := by unfold sDrop; rw [h]; rfl
theorem z_dropX {y : Exn} (h : fe e S = .exc y S1) : sDrop fe e S = .exc y e S1 := by unfold sDrop; rw [h]; rfl
theorem z_asgX {i : Nat} {y : Exn} (h : fe e S = .exc y S1) : sAsg i fe e S = .exc y e S1 := by unfold sAsg; rw [h]; rfl
theorem z_retX {y : Exn} (h : fe e S = .exc y S1) : sRet fe e S = .exc y e S1 := by unfold sRet; rw [h]; rfl
theorem z_ifT (h : tb e S = .ok true S1) (k : f e S1 = r) : sIf tb f g e S = r := by unfold sIf; rw [h]; exact k
theorem z_ifF (h : tb e S = .ok false S1) (k : g e S1 = r) : sIf tb f g e S = r := by unfold sIf; rw [h]; exact k
theorem z_if {b : Bool} (h : tb e S = .ok b S1) (k : (if b = true then f e S1 else g e S1) = r) : sIf tb f g e S = r := by unfold sIf; rw [h]; exact k
/-! ### calls -/
theorem z_T {np N : Nat} {body : SF} {xs : List Val} {y : Dat} (hl : xs.length = np) (h : body (xs.map some ++ List.replicate (N - np) none) S = .rt (.d y) S1) (ht : trim S S1 = some S2) : fnT np N body xs S = .ok (.d y) S2 := by
  unfold fnT; rw [if_pos hl, h]
  show outT S (.d y) S1 = _
  unfold outT rtrim
  rw [ht]
theorem z_Tn {np N : Nat} {body : SF} {xs : List Val} (hl : xs.length = np) (h : body (xs.map some ++ List.replicate (N - np) none) S = .nx e1 S1) (ht : trim S S1 = some S2) : fnT np N body xs S = .ok (.d .non) S2 := by
  unfold fnT; rw [if_pos hl, h]
  show outT S (.d .non) S1 = _
  unfold outT rtrim
  rw [ht]
theorem z_TX {np N : Nat} {body : SF} {xs : List Val} {y : Exn} (hl : xs.length = np) (h : body (xs.map some ++ List.replicate (N - np) none) S = .exc y e1 S1) (ht : trim S S1 = some S2) : fnT np N body xs S = .exc y S2 := by
  unfold fnT; rw [if_pos hl, h]
  show rtrim S (.exc y) S1 = _
  unfold rtrim
  rw [ht]
/-- a list, a dict that it has made is told -/
theorem z_TR {np N : Nat} {body : SF} {xs : List Val} {i : Nat} {c : Cell} {y : Dat} (hl : xs.length = np) (h : body (xs.map some ++ List.replicate (N - np) none) S = .rt (.ref i) S1) (hi : S.length ≤ i) (hc : S1[i]? = some (some c)) (hy : frz c = some y) (ht : trim S (S1.set i none) = some S2) : fnT np N body xs S = .ok (.d y) S2 := by
  unfold fnT; rw [if_pos hl, h]
  show outT S (.ref i) S1 = _
  unfold outT rtrim
  dsimp only
  rw [if_neg (Nat.not_lt.mpr hi), hc]
  dsimp only
  rw [hy]
  dsimp only
  rw [ht]
theorem z_A {np N : Nat} {body : SF} {xs : List Val} {x : Val} (hl : xs.length = np) (h : body (xs.map some ++ List.replicate (N - np) none) S = .rt x S1) : fnA np N body xs S = .ok x S1 := by
  unfold fnA; rw [if_pos hl, h]
theorem z_An {np N : Nat} {body : SF} {xs : List Val} (hl : xs.length = np) (h : body (xs.map some ++ List.replicate (N - np) none) S = .nx e1 S1) : fnA np N body xs S = .ok (.d .non) S1 := by
  unfold fnA; rw [if_pos hl, h]
theorem z_AX {np N : Nat} {body : SF} {xs : List Val} {y : Exn} (hl : xs.length = np) (h : body (xs.map some ++ List.replicate (N - np) none) S = .exc y e1 S1) : fnA np N body xs S = .exc y S1 := by
  unfold fnA; rw [if_pos hl, h]
end
/-! ### what trimming keeps -/
theorem trim_pre {S T U : Store} (h : S.length = T.length) (k : ∀ i c, i < T.length → live T i c → T[i]? = S[i]? ∨ belowC S.length c = true) : trim S (T ++ U) = some T := by
  rw [trim_eq (by rw [List.length_append]; omega) fun i hi => ?_]
  · rw [h, List.take_left]
  · rw [List.getElem?_append_left (by omega)]
    by_cases q : ∃ c, live T i c ∧ belowC S.length c = false
    · obtain ⟨c, h1, h2⟩ := q
      rcases k i c (by omega) h1 with z | z
      · exact .inl z
      · rw [z] at h2; cases h2
    · refine .inr fun c hc => ?_
      have hc' : live T i c := by
        unfold live at hc ⊢
        rwa [List.getElem?_append_left (by omega)] at hc
      cases z : belowC S.length c with
      | true => rfl
      | false => exact absurd ⟨c, hc', z⟩ q
end Z
set_option Elab.async false
set_option linter.all false
set_option maxRecDepth 100000
set_option maxHeartbeats 4000000
namespace Z
open PySem L2 Evl NdefX LamX
/-! ## texts -/
theorem str_inj {a b : String} : (Str.ofString a = Str.ofString b) ↔ a = b := by
  constructor
  · intro h
    rw [Str.ofString_eq_toList, Str.ofString_eq_toList] at h
    have h1 : (a.toList.map Char.toNat) = (b.toList.map Char.toNat) := by
      have := congrArg Str.cps h
      simpa using this
    have h2 : a.toList = b.toList := by
      refine List.map_inj_right (f := Char.toNat) (fun x y e => ?_) |>.mp h1
      exact Char.ext (UInt32.toNat_inj.mp e)
    exact String.toList_inj.mp h2
  · rintro rfl; rfl
/-! ## data without bools, dicts, instances: equal data -/
noncomputable instance decDat : DecidableEq Dat := fun a b => Classical.propDecidable (a = b)
mutual
def plainD : Dat → Bool
  | .non => true
  | .int _ => true
  | .str s => PyData.strOk s
  | .tup l => plainDs l
  | .lst l => plainDs l
  | _ => false
def plainDs : List Dat → Bool
  | [] => true
  | x :: r => plainD x && plainDs r
end
mutual
def depD : Dat → Nat
  | .tup l => depDs l + 1
  | .lst l => depDs l + 1
  | _ => 0
def depDs : List Dat → Nat
  | [] => 0
  | x :: r => max (depD x) (depDs r)
end
mutual
theorem pd_plain : ∀ {x : Dat}, plainD x = true → ∃ d, pd x = some d ∧ d.canLay0 = true ∧ d.depth ≤ depD x
  | .non, _ => ⟨_, rfl, rfl, Nat.le_refl _⟩
  | .int i, _ => ⟨_, rfl, rfl, Nat.le_refl _⟩
  | .str s, h => ⟨_, rfl, h, Nat.le_refl _⟩
  | .tup l, h => by
    obtain ⟨ds, e, c, d⟩ := pds_plain (l := l) (by rw [plainD] at h; exact h)
    exact ⟨.tuple ds, by rw [pd, e]; rfl, c, by rw [depD]; exact Nat.succ_le_succ d⟩
  | .lst l, h => by
    obtain ⟨ds, e, c, d⟩ := pds_plain (l := l) (by rw [plainD] at h; exact h)
    exact ⟨.list ds, by rw [pd, e]; rfl, c, by rw [depD]; exact Nat.succ_le_succ d⟩
  | .bl _, h => by cases h
  | .dct _ _, h => by simp [plainD] at h
  | .obj _ _ _, h => by simp [plainD] at h
  | .scr _, h => by simp [plainD] at h
theorem pds_plain : ∀ {l : List Dat}, plainDs l = true → ∃ ds, pds l = some ds ∧ PyData.canLayAll0 ds = true ∧ PyData.depthAll ds ≤ depDs l
  | [], _ => ⟨[], rfl, rfl, Nat.le_refl _⟩
  | x :: r, h => by
    rw [plainDs, Bool.and_eq_true] at h
    obtain ⟨d, e, c, k⟩ := pd_plain h.1
    obtain ⟨ds, e2, c2, k2⟩ := pds_plain h.2
    refine ⟨d :: ds, by rw [pds, e, e2]; rfl, by rw [PyData.canLayAll0, c, c2]; rfl, ?_⟩
    rw [PyData.depthAll, depDs]
    omega
end
mutual
theorem eqv_plain : ∀ {x y : Dat} {a b : PyData}, plainD x = true → plainD y = true → pd x = some a → pd y = some b → PyData.eqv a b = decide (x = y)
  | .non, y, a, b, _, hy, e, e2 => by
    cases e
    cases y <;> (first | (simp [plainD] at hy; done) | skip)
    · cases e2; simp [PyData.eqv]
    · cases e2; simp [PyData.eqv]
    · cases e2; simp [PyData.eqv]
    · next l => cases q : pds l <;> simp [pd, q] at e2; subst e2; simp [PyData.eqv]
    · next l => cases q : pds l <;> simp [pd, q] at e2; subst e2; simp [PyData.eqv]
  | .int i, y, a, b, _, hy, e, e2 => by
    cases e
    cases y <;> (first | (simp [plainD] at hy; done) | skip)
    · cases e2; simp [PyData.eqv]
    · cases e2; simp [PyData.eqv]; rw [Bool.eq_iff_iff]; simp
    · cases e2; simp [PyData.eqv]
    · next l => cases q : pds l <;> simp [pd, q] at e2; subst e2; simp [PyData.eqv]
    · next l => cases q : pds l <;> simp [pd, q] at e2; subst e2; simp [PyData.eqv]
  | .str i, y, a, b, _, hy, e, e2 => by
    cases e
    cases y <;> (first | (simp [plainD] at hy; done) | skip)
    · cases e2; simp [PyData.eqv]
    · cases e2; simp [PyData.eqv]
    · cases e2; simp [PyData.eqv]; rw [Bool.eq_iff_iff]; simp
    · next l => cases q : pds l <;> simp [pd, q] at e2; subst e2; simp [PyData.eqv]
    · next l => cases q : pds l <;> simp [pd, q] at e2; subst e2; simp [PyData.eqv]
  | .tup l, y, a, b, hx, hy, e, e2 => by
    rw [plainD] at hx
    cases q0 : pds l <;> simp [pd, q0] at e
    subst e
    cases y <;> (first | (simp [plainD] at hy; done) | skip)
    · cases e2; simp [PyData.eqv]
    · cases e2; simp [PyData.eqv]
    · cases e2; simp [PyData.eqv]
    · next m => cases q : pds m <;> simp [pd, q] at e2; subst e2; rw [PyData.eqv, eqvs_plain hx (by rw [plainD] at hy; exact hy) q0 q]; simp
    · next m => cases q : pds m <;> simp [pd, q] at e2; subst e2; simp [PyData.eqv]
  | .lst l, y, a, b, hx, hy, e, e2 => by
    rw [plainD] at hx
    cases q0 : pds l <;> simp [pd, q0] at e
    subst e
    cases y <;> (first | (simp [plainD] at hy; done) | skip)
    · cases e2; simp [PyData.eqv]
    · cases e2; simp [PyData.eqv]
    · cases e2; simp [PyData.eqv]
    · next m => cases q : pds m <;> simp [pd, q] at e2; subst e2; simp [PyData.eqv]
    · next m => cases q : pds m <;> simp [pd, q] at e2; subst e2; rw [PyData.eqv, eqvs_plain hx (by rw [plainD] at hy; exact hy) q0 q]; simp
  | .bl _, _, _, _, h, _, _, _ => by cases h
  | .dct _ _, _, _, _, h, _, _, _ => by simp [plainD] at h
  | .obj _ _ _, _, _, _, h, _, _, _ => by simp [plainD] at h
  | .scr _, _, _, _, h, _, _, _ => by simp [plainD] at h
theorem eqvs_plain : ∀ {l m : List Dat} {as bs : List PyData}, plainDs l = true → plainDs m = true → pds l = some as → pds m = some bs → PyData.eqvAll as bs = decide (l = m)
  | [], [], _, _, _, _, e, e2 => by cases e; cases e2; simp [PyData.eqvAll]
  | [], y :: r, _, bs, _, hy, e, e2 => by
    cases e
    rw [plainDs, Bool.and_eq_true] at hy
    obtain ⟨d, q, _⟩ := pd_plain hy.1
    obtain ⟨ds, q2, _⟩ := pds_plain hy.2
    rw [pds, q, q2] at e2; cases e2; simp [PyData.eqvAll]
  | x :: r, [], as, _, hx, _, e, e2 => by
    cases e2
    rw [plainDs, Bool.and_eq_true] at hx
    obtain ⟨d, q, _⟩ := pd_plain hx.1
    obtain ⟨ds, q2, _⟩ := pds_plain hx.2
    rw [pds, q, q2] at e; cases e; simp [PyData.eqvAll]
  | x :: r, y :: t, as, bs, hx, hy, e, e2 => by
    rw [plainDs, Bool.and_eq_true] at hx hy
    obtain ⟨d, q, _⟩ := pd_plain hx.1
    obtain ⟨ds, q2, _⟩ := pds_plain hx.2
    obtain ⟨d', q', _⟩ := pd_plain hy.1
    obtain ⟨ds', q2', _⟩ := pds_plain hy.2
    rw [pds, q, q2] at e; cases e
    rw [pds, q', q2'] at e2; cases e2
    rw [PyData.eqvAll, eqv_plain hx.1 hy.1 q q', eqvs_plain hx.2 hy.2 q2 q2']
    simp
end
/-- what may be compared -/
def fineD (x : Dat) : Prop := plainD x = true ∧ depD x ≤ 64
theorem eqD_fine {S : Store} {x y : Dat} (hx : fineD x) (hy : fineD y) : eqD S (.d x) (.d y) = some (decide (x = y)) := by
  obtain ⟨a, ea, ca, da⟩ := pd_plain hx.1
  obtain ⟨b, eb, cb, db⟩ := pd_plain hy.1
  have hs : SeqAt.shaped a = true ∧ SeqAt.shaped b = true := by
    unfold SeqAt.shaped
    have h1 := hx.2
    have h2 := hy.2
    constructor
    · rw [ca, decide_eq_true (by omega)]; rfl
    · rw [cb, decide_eq_true (by omega)]; rfl
  have hv := eqv_plain hx.1 hy.1 ea eb
  unfold eqD
  split
  all_goals (try (simp; done))
  · simp only [Option.some.injEq]
    next i j e1 e2 => cases e1; cases e2; simp
  · next i j e1 e2 => cases e1; cases e2; simp
  · next i j e1 e2 => cases e1; cases e2; simp
  all_goals (try (next e1 e2 => cases e1; cases e2; simp; done))
  all_goals (try (next i e1 e2 => cases e1; cases e2; simp; done))
  · next hp =>
    have p1 : pdV S (.d x) = some a := ea
    have p2 : pdV S (.d y) = some b := eb
    rw [p1, p2]
    dsimp only
    rw [if_pos hs, hv]
end Z
set_option Elab.async false
set_option linter.all false
set_option maxRecDepth 100000
set_option maxHeartbeats 4000000
namespace Z
open PySem
/-! ## sources, typed -/
inductive Sm where
  | num (n : Int) | nam (s : Str) | op (w : Str) (a b : Sm) | ite (t a b : Sm)
inductive Rw where
  | set (x : Str) (e : Sm) | shw (e : Sm)
def encS : Sm → Dat
  | .num n => .int n
  | .nam s => .str s
  | .op w a b => .tup [.str w, encS a, encS b]
  | .ite t a b => .tup [.str "if", encS t, encS a, encS b]
def encR : Rw → Dat
  | .set x e => .tup [.str "set", .str x, encS e]
  | .shw e => .tup [.str "show", encS e]
def enc (l : List Rw) : Dat := .tup (l.map encR)
/-! ## what a law draws -/
def lawSeed (s k : Int) : Int := ((s * 1103515245 + 7919 * k + 12345) % 2147483647) ^ 5 % 2147483647
theorem natAbs_mod (x : Int) : (x % 2147483647).natAbs < 2 ^ 64 := by have := Int.emod_nonneg x (show (2147483647 : Int) ≠ 0 by decide); have := Int.emod_lt_of_pos x (show (0 : Int) < 2147483647 by decide); omega
def lawPick (s m : Int) : Int := s / 97 % m
def drawNames : List Str := [("a" : Str), ("b" : Str), "c", "wxyz"]
def leafL (s : Int) : List Sm := [.num (s / 7 % 10), .num (s / 7 % 4), .num (s / 7 % 10000), .num 0, .nam "a", .nam "b", .nam "c", .nam "wxyz", .nam "a", .nam "b"]
def leaf (s : Int) : Sm := (leafL s).getD (s / 5 % 10).toNat (.num 0)
def drawWords : List Str := [("add" : Str), ("less" : Str), "times", "over", "same", "if", "add"]
def drawWord (s : Int) : Str := drawWords.getD (s / 11 % 7).toNat "add"
def lawSum : Nat → Int → Sm
  | 0, s => leaf s
  | n + 1, s => if lawPick s 3 = 0 then leaf s else
    if drawWord s = "if" then .ite (lawSum n (lawSeed s 0)) (lawSum n (lawSeed s 1)) (lawSum n (lawSeed s 2))
    else .op (drawWord s) (lawSum n (lawSeed s 0)) (lawSum n (lawSeed s 1))
def drawDeep (one : Int) : Int := ([one / 7 % 3, 6] : List Int).getD (if one / 13 % 9 = 0 then 1 else 0) 0
def drawRow (s : Int) (k : Nat) : Rw :=
  let one := lawSeed s (20 + k)
  let e := lawSum (drawDeep one).toNat (lawSeed one 1)
  if lawPick one 3 > 0 then .set (drawNames.getD (one / 11 % 4).toNat "a") e else .shw e
def drawMany (s : Int) : Int := ([s / 7 % 4, 1 + s / 7 % 3, s / 7 % 9] : List Int).getD (s / 11 % 3).toNat 0
def lawSource (s : Int) : List Rw := (List.range (drawMany s).toNat).map (drawRow s)
theorem drawMany_le (s : Int) : 0 ≤ drawMany s ∧ drawMany s ≤ 8 := by
  unfold drawMany
  have h : (s / 11 % 3).toNat = 0 ∨ (s / 11 % 3).toNat = 1 ∨ (s / 11 % 3).toNat = 2 := by omega
  rcases h with h | h | h <;> rw [h] <;> simp [List.getD] <;> omega
theorem drawDeep_le (s : Int) : 0 ≤ drawDeep s ∧ drawDeep s ≤ 6 := by
  unfold drawDeep
  split <;> simp [List.getD] <;> omega

theorem lawSum_leaf {n : Nat} {s : Int} (h : (decide ((n : Int) < 1) || decide (lawPick s 3 = 0)) = true) : lawSum n s = leaf s := by
  cases n with
  | zero => rfl
  | succ n =>
    have h2 : lawPick s 3 = 0 := by
      rw [Bool.or_eq_true, decide_eq_true_eq, decide_eq_true_eq] at h
      rcases h with h | h
      · omega
      · exact h
    rw [lawSum, if_pos h2]
theorem lawSum_more {n : Nat} {s : Int} (h : (decide (((n + 1 : Nat) : Int) < 1) || decide (lawPick s 3 = 0)) = false) : lawSum (n + 1) s = if drawWord s = "if" then .ite (lawSum n (lawSeed s 0)) (lawSum n (lawSeed s 1)) (lawSum n (lawSeed s 2))
    else .op (drawWord s) (lawSum n (lawSeed s 0)) (lawSum n (lawSeed s 1)) := by
  have h2 : ¬ lawPick s 3 = 0 := by
    rw [Bool.or_eq_false_iff, decide_eq_false_iff_not, decide_eq_false_iff_not] at h
    exact h.2
  rw [lawSum, if_neg h2]
theorem getD_map_lt {α β : Type} {l : List α} {f : α → β} {i : Nat} {a : α} {b : β} (h : i < l.length) : (l.map f).getD i b = f (l.getD i a) := by
  rw [List.getD_eq_getElem?_getD, List.getD_eq_getElem?_getD, List.getElem?_map, List.getElem?_eq_getElem h]; rfl
theorem leaf_enc (s : Int) (b : Dat) : ((leafL s).map encS).getD (s / 5 % 10).toNat b = encS (leaf s) := by
  unfold leaf
  exact getD_map_lt (by show _ < 10; omega)

theorem drawRow_set {a : Int} {i : Nat} (h : decide (0 < lawPick (lawSeed a (20 + i)) 3) = true) : drawRow a i = .set (drawNames.getD (lawSeed a (20 + i) / 11 % 4).toNat "a") (lawSum (drawDeep (lawSeed a (20 + i))).toNat (lawSeed (lawSeed a (20 + i)) 1)) := by
  have h' : lawPick (lawSeed a (20 + i)) 3 > 0 := of_decide_eq_true h
  unfold drawRow; exact if_pos h'
theorem drawRow_shw {a : Int} {i : Nat} (h : decide (0 < lawPick (lawSeed a (20 + i)) 3) = false) : drawRow a i = .shw (lawSum (drawDeep (lawSeed a (20 + i))).toNat (lawSeed (lawSeed a (20 + i)) 1)) := by
  have h' : ¬ lawPick (lawSeed a (20 + i)) 3 > 0 := of_decide_eq_false h
  unfold drawRow; exact if_neg h'
theorem rows_snoc (a : Int) (i : Nat) : ((List.range (i + 1)).map (drawRow a)).map encR = ((List.range i).map (drawRow a)).map encR ++ [encR (drawRow a i)] := by
  rw [List.range_succ, List.map_append, List.map_append]; rfl
def small : Str := "abcdefghijklmnopqrstuvwxyz"
def barred : List Str := [("add" : Str), ("less" : Str), "times", "over", "same", "if", "set", "show"]
def words5 : List Str := [("add" : Str), ("less" : Str), "times", "over", "same"]
def nameLen (s : Str) : Bool := decide (1 ≤ (s.length : Int)) && decide ((s.length : Int) ≤ 4)
def nameStr (s : Str) : Bool := nameLen s && !decide (s ∈ barred) && s.cps.toList.all fun c => decide (c ∈ small.cps.toList)
/-! ## typed sources that are in order -/
def okSm : Nat → Sm → Prop
  | _, .num n => 0 ≤ n ∧ n ≤ 9999
  | _, .nam s => nameStr s = true
  | n + 1, .op w a b => w ∈ words5 ∧ okSm n a ∧ okSm n b
  | n + 1, .ite t a b => okSm n t ∧ okSm n a ∧ okSm n b
  | _, _ => False
def okRw : Rw → Prop
  | .set x e => nameStr x = true ∧ okSm 6 e
  | .shw e => okSm 6 e
def okSrc (l : List Rw) : Prop := l.length ≤ 8 ∧ ∀ r ∈ l, okRw r
theorem okSm_up : ∀ {n m : Nat} {e : Sm}, n ≤ m → okSm n e → okSm m e
  | 0, 0, _, _, h => h
  | 0, m + 1, .num _, _, h => h
  | 0, m + 1, .nam _, _, h => h
  | n + 1, m + 1, .num _, _, h => h
  | n + 1, m + 1, .nam _, _, h => h
  | n + 1, m + 1, .op w a b, hm, h => ⟨h.1, okSm_up (Nat.le_of_succ_le_succ hm) h.2.1, okSm_up (Nat.le_of_succ_le_succ hm) h.2.2⟩
  | n + 1, m + 1, .ite t a b, hm, h => ⟨okSm_up (Nat.le_of_succ_le_succ hm) h.1, okSm_up (Nat.le_of_succ_le_succ hm) h.2.1, okSm_up (Nat.le_of_succ_le_succ hm) h.2.2⟩
theorem small_ok : small.cps.toList.all (fun c => decide (c < 0x110000)) = true := by decide +kernel
theorem name_ok {s : Str} (h : nameStr s = true) : s.length ≤ 4 ∧ PyData.strOk s = true := by
  unfold nameStr nameLen at h
  simp only [Bool.and_eq_true, decide_eq_true_eq] at h
  refine ⟨by omega, ?_⟩
  show s.cps.all (fun c => decide (c < 0x110000)) = true
  rw [Array.all_eq_true_iff_forall_mem]
  intro c hc
  have h2 := List.all_eq_true.mp h.2 c (Array.mem_toList_iff.mpr hc)
  exact List.all_eq_true.mp small_ok c (of_decide_eq_true h2)
theorem word_ok {w : Str} (h : w ∈ words5) : w.length ≤ 5 ∧ PyData.strOk w = true := by
  have : ∀ w ∈ words5, w.length ≤ 5 ∧ PyData.strOk w = true := by
    intro w hw
    simp only [words5, List.mem_cons, List.not_mem_nil, or_false] at hw
    rcases hw with rfl | rfl | rfl | rfl | rfl <;> decide +kernel
  exact this w h
/-! ### what is drawn is in order -/
theorem ok_getD {α : Type} {l : List α} {P : α → Prop} {d : α} (h : ∀ a ∈ l, P a) (hd : P d) (i : Nat) : P (l.getD i d) := by
  rw [List.getD_eq_getElem?_getD]
  cases e : l[i]? with
  | none => exact hd
  | some a => exact h a (List.mem_of_getElem? e)
theorem draw_names : ∀ s ∈ drawNames, nameStr s = true := by
  intro s hs
  simp only [drawNames, List.mem_cons, List.not_mem_nil, or_false] at hs
  rcases hs with rfl | rfl | rfl | rfl <;> decide +kernel
theorem ok_leaf (n : Nat) (s : Int) : okSm n (leaf s) := by
  unfold leaf
  refine ok_getD (fun a ha => ?_) (by cases n <;> exact ⟨by decide, by decide⟩) _
  simp only [leafL, List.mem_cons, List.not_mem_nil, or_false] at ha
  have hn : ∀ i : Int, 0 ≤ i → i ≤ 9999 → okSm n (.num i) := fun i h1 h2 => by cases n <;> exact ⟨h1, h2⟩
  have hs : ∀ x : Str, x ∈ drawNames → okSm n (.nam x) := fun x hx => by cases n <;> exact draw_names x hx
  rcases ha with rfl | rfl | rfl | rfl | rfl | rfl | rfl | rfl | rfl | rfl
  · exact hn _ (by omega) (by omega)
  · exact hn _ (by omega) (by omega)
  · exact hn _ (by omega) (by omega)
  · exact hn _ (by omega) (by omega)
  · exact hs _ (.head _)
  · exact hs _ (.tail _ (.head _))
  · exact hs _ (.tail _ (.tail _ (.head _)))
  · exact hs _ (.tail _ (.tail _ (.tail _ (.head _))))
  · exact hs _ (.head _)
  · exact hs _ (.tail _ (.head _))
theorem draw_word {s : Int} (h : ¬ drawWord s = "if") : drawWord s ∈ words5 := by
  have : drawWord s ∈ words5 ∨ drawWord s = "if" := by
    unfold drawWord
    refine ok_getD (P := fun w => w ∈ words5 ∨ w = "if") (fun a ha => ?_) (.inl (.head _)) _
    simp only [drawWords, List.mem_cons, List.not_mem_nil, or_false] at ha
    rcases ha with rfl | rfl | rfl | rfl | rfl | rfl | rfl
    · exact .inl (.head _)
    · exact .inl (.tail _ (.head _))
    · exact .inl (.tail _ (.tail _ (.head _)))
    · exact .inl (.tail _ (.tail _ (.tail _ (.head _))))
    · exact .inl (.tail _ (.tail _ (.tail _ (.tail _ (.head _)))))
    · exact .inr rfl
    · exact .inl (.head _)
  exact this.resolve_right h
theorem ok_lawSum : ∀ (n : Nat) (s : Int), okSm n (lawSum n s)
  | 0, s => ok_leaf 0 s
  | n + 1, s => by
    rw [lawSum]
    split
    · exact ok_leaf _ s
    · split
      · exact ⟨ok_lawSum n _, ok_lawSum n _, ok_lawSum n _⟩
      · rename_i h; exact ⟨draw_word h, ok_lawSum n _, ok_lawSum n _⟩
theorem ok_drawRow (s : Int) (k : Nat) : okRw (drawRow s k) := by
  have hd := drawDeep_le (lawSeed s (20 + k))
  have he : okSm 6 (lawSum (drawDeep (lawSeed s (20 + k))).toNat (lawSeed (lawSeed s (20 + k)) 1)) := okSm_up (by omega) (ok_lawSum _ _)
  unfold drawRow
  dsimp only
  split
  · exact ⟨ok_getD draw_names (draw_names _ (.head _)) _, he⟩
  · exact he
theorem ok_lawSource (s : Int) : okSrc (lawSource s) := by
  have := drawMany_le s
  refine ⟨?_, fun r hr => ?_⟩
  · unfold lawSource; rw [List.length_map, List.length_range]; omega
  · obtain ⟨k, _, rfl⟩ := List.mem_map.mp hr; exact ok_drawRow s k

/-! ### they may be compared -/
theorem plainDs_iff {l : List Dat} : plainDs l = true ↔ ∀ x ∈ l, plainD x = true := by
  induction l with
  | nil => simp [plainDs]
  | cons x r ih => rw [plainDs, Bool.and_eq_true, ih]; simp
theorem depDs_le {l : List Dat} {n : Nat} : depDs l ≤ n ↔ ∀ x ∈ l, depD x ≤ n := by
  induction l with
  | nil => simp [depDs]
  | cons x r ih => rw [depDs, Nat.max_le, ih]; simp
def fineN (n : Nat) (x : Dat) : Prop := plainD x = true ∧ depD x ≤ n
theorem fineN.up {n m : Nat} {x : Dat} (h : fineN n x) (k : n ≤ m) : fineN m x := ⟨h.1, Nat.le_trans h.2 k⟩
theorem fineN.fine {n : Nat} {x : Dat} (h : fineN n x) (k : n ≤ 64) : fineD x := ⟨h.1, Nat.le_trans h.2 k⟩
theorem fineN_tup {n : Nat} {l : List Dat} (h : ∀ x ∈ l, fineN n x) : fineN (n + 1) (.tup l) := ⟨by rw [plainD]; exact plainDs_iff.mpr fun x m => (h x m).1, by rw [depD]; exact Nat.succ_le_succ (depDs_le.mpr fun x m => (h x m).2)⟩
theorem fineN_lst {n : Nat} {l : List Dat} (h : ∀ x ∈ l, fineN n x) : fineN (n + 1) (.lst l) := ⟨by rw [plainD]; exact plainDs_iff.mpr fun x m => (h x m).1, by rw [depD]; exact Nat.succ_le_succ (depDs_le.mpr fun x m => (h x m).2)⟩
theorem fineN_int (i : Int) (n : Nat) : fineN n (.int i) := ⟨rfl, Nat.zero_le _⟩
theorem fineN_non (n : Nat) : fineN n .non := ⟨rfl, Nat.zero_le _⟩
theorem fineN_str {s : Str} (h : PyData.strOk s = true) (n : Nat) : fineN n (.str s) := ⟨h, Nat.zero_le _⟩
theorem fineN_encS : ∀ {n : Nat} {e : Sm}, okSm n e → fineN n (encS e)
  | n, .num i, _ => fineN_int i n
  | n, .nam s, h => fineN_str (name_ok (by cases n <;> exact h)).2 n
  | n + 1, .op w a b, h => fineN_tup (by
    intro d hd
    simp only [List.mem_cons, List.not_mem_nil, or_false] at hd
    rcases hd with rfl | rfl | rfl
    · exact fineN_str (word_ok h.1).2 _
    · exact fineN_encS h.2.1
    · exact fineN_encS h.2.2)
  | n + 1, .ite t a b, h => fineN_tup (by
    intro d hd
    simp only [List.mem_cons, List.not_mem_nil, or_false] at hd
    rcases hd with rfl | rfl | rfl | rfl
    · exact fineN_str (by decide +kernel) _
    · exact fineN_encS h.1
    · exact fineN_encS h.2.1
    · exact fineN_encS h.2.2)
theorem fineN_encR {r : Rw} (h : okRw r) : fineN 7 (encR r) := by
  cases r with
  | set x e =>
    refine fineN_tup fun d hd => ?_
    simp only [List.mem_cons, List.not_mem_nil, or_false] at hd
    rcases hd with rfl | rfl | rfl
    · exact fineN_str (by decide +kernel) _
    · exact fineN_str (name_ok h.1).2 _
    · exact fineN_encS h.2
  | shw e =>
    refine fineN_tup fun d hd => ?_
    simp only [List.mem_cons, List.not_mem_nil, or_false] at hd
    rcases hd with rfl | rfl
    · exact fineN_str (by decide +kernel) _
    · exact fineN_encS h
theorem fineN_enc {l : List Rw} (h : ∀ r ∈ l, okRw r) : fineN 8 (enc l) := fineN_tup fun d hd => by
  obtain ⟨r, hr, rfl⟩ := List.mem_map.mp hd
  exact fineN_encR (h r hr)
/-! ### what is written is what is read -/
theorem encS_inj : ∀ {a b : Sm}, encS a = encS b → a = b
  | .num i, b, h => by cases b <;> simp [encS] at h; rw [h]
  | .nam i, b, h => by cases b <;> simp [encS] at h; rw [h]
  | .op w a b, .op w' a' b', h => by
    simp only [encS, Dat.tup.injEq, List.cons.injEq, Dat.str.injEq, and_true] at h
    rw [h.1, encS_inj h.2.1, encS_inj h.2.2]
  | .ite t a b, .ite t' a' b', h => by
    simp only [encS, Dat.tup.injEq, List.cons.injEq, true_and, and_true] at h
    rw [encS_inj h.1, encS_inj h.2.1, encS_inj h.2.2]
  | .op w a b, .num _, h => by simp [encS] at h
  | .op w a b, .nam _, h => by simp [encS] at h
  | .op w a b, .ite _ _ _, h => by simp [encS] at h
  | .ite _ _ _, .num _, h => by simp [encS] at h
  | .ite _ _ _, .nam _, h => by simp [encS] at h
  | .ite _ _ _, .op _ _ _, h => by simp [encS] at h
theorem encR_inj : ∀ {a b : Rw}, encR a = encR b → a = b
  | .set x e, .set y f, h => by
    simp only [encR, Dat.tup.injEq, List.cons.injEq, Dat.str.injEq, true_and, and_true] at h
    rw [h.1, encS_inj h.2]
  | .shw e, .shw f, h => by
    simp only [encR, Dat.tup.injEq, List.cons.injEq, true_and, and_true] at h
    rw [encS_inj h]
  | .set x e, .shw f, h => by simp [encR] at h
  | .shw e, .set y f, h => by simp [encR] at h
theorem enc_inj {a b : List Rw} (h : enc a = enc b) : a = b := by
  have h' : a.map encR = b.map encR := by simpa [enc] using h
  exact (List.map_inj_right fun x y e => encR_inj e).mp h'
end Z
set_option Elab.async false
set_option linter.all false
set_option maxRecDepth 100000
set_option maxHeartbeats 4000000
namespace Z
open PySem L2 Evl NdefX LamX
/-! ## comprehensions and loops, as plain lists -/
section
variable {e e1 : Envr} {S S1 : Store} {it : IF} {tg : GF} {tt : BF} {ef : EF} {vs : List Nat} {l : List Val} {g : Option Nat}
theorem compL_pure {l0 : List Val} {env : Envr} (hg : gd g l0 S) {P : Val → Bool} {Fv : Val → Val} : ∀ {l : List Val}, (∀ x ∈ l, ∃ e1, tg x env = some e1 ∧ tt e1 S = .ok (P x) S ∧ (P x = true → ef e1 S = .ok (Fv x) S)) → compL tg tt ef env g l0 l S = .ok ((l.filter P).map Fv) S
  | [], _ => by unfold compL; rw [if_pos hg]; rfl
  | x :: r, h => by
    obtain ⟨e1, h1, h2, h3⟩ := h x (.head _)
    have ih := compL_pure hg (l := r) fun y m => h y (.tail _ m)
    unfold compL
    rw [if_pos hg, h1]
    dsimp only
    rw [h2]
    show (if P x = true then rbindx (ef e1 S) _ else compL tg tt ef env g l0 r S) = _
    rw [List.filter_cons]
    cases hp : P x with
    | true =>
      rw [if_pos rfl, if_pos rfl, h3 hp]
      show rbindx (compL tg tt ef env g l0 r S) _ = _
      rw [ih]; rfl
    | false => rw [if_neg (by simp), if_neg (by simp), ih]
theorem comp_pure {P : Val → Bool} {Fv : Val → Val} (hi : it e S = .ok (l, g) S) (hg : gd g l S) (hl : l.length ≤ 100000) (h : ∀ x ∈ l, ∃ e1, tg x (wipeE e vs) = some e1 ∧ tt e1 S = .ok (P x) S ∧ (P x = true → ef e1 S = .ok (Fv x) S)) :
    compF it tg tt ef vs e S = .ok ((l.filter P).map Fv) S := by
  unfold compF
  rw [hi]
  show (if l.length ≤ 100000 then rbindx (compL tg tt ef (wipeE e vs) g l l S) _ else _) = _
  rw [if_pos hl, compL_pure hg h]; rfl
theorem mkF {m : List Dat} : mkL false (m.map .d) S = .ok (.d (.lst m)) S := by
  unfold mkL newF
  rw [if_neg (by simp), dats_map]
/-- a comprehension of data -/
theorem comp_frz {P : Val → Bool} {Fv : Val → Dat} (hi : it e S = .ok (l, g) S) (hg : gd g l S) (hl : l.length ≤ 100000) (h : ∀ x ∈ l, ∃ e1, tg x (wipeE e vs) = some e1 ∧ tt e1 S = .ok (P x) S ∧ (P x = true → ef e1 S = .ok (.d (Fv x)) S)) :
    eComp false it tg tt ef vs e S = .ok (.d (.lst ((l.filter P).map Fv))) S := by
  unfold eComp
  rw [comp_pure (Fv := fun x => .d (Fv x)) hi hg hl h]
  show mkL false _ S = _
  rw [← mkF, List.map_map]; rfl
/-- .. over everything -/
theorem comp_all {Fv : Val → Dat} (hi : it e S = .ok (l, g) S) (hg : gd g l S) (hl : l.length ≤ 100000) (h : ∀ x ∈ l, ∃ e1, tg x (wipeE e vs) = some e1 ∧ ef e1 S = .ok (.d (Fv x)) S) :
    eComp false it tg tYesF ef vs e S = .ok (.d (.lst (l.map Fv))) S := by
  have := comp_frz (P := fun _ => true) (tt := tYesF) (Fv := Fv) hi hg hl fun x m => by
    obtain ⟨e1, a, b⟩ := h x m
    exact ⟨e1, a, rfl, fun _ => b⟩
  rw [this, List.filter_eq_self.mpr (fun _ _ => rfl)]
/-- a loop whose suite keeps something -/
theorem forL_inv {body : SF} {l0 : List Val} (I : Nat → Envr → Store → Prop) (hg : ∀ i e S, I i e S → gd g l0 S) : ∀ (r : List Val) (i : Nat), i ≤ l0.length → l0.drop i = r → (∀ j x e S, i ≤ j → l0[j]? = some x → I j e S → ∃ e1, tg x e = some e1 ∧ ∃ e2 S2, (body e1 S = .nx e2 S2 ∨ body e1 S = .ct e2 S2) ∧ I (j + 1) e2 S2) →
    ∀ e S, I i e S → ∃ e' S', forL tg body g l0 r e S = .nx e' S' ∧ I l0.length e' S'
  | [], i, hi', hd, _, e, S, h => by
    have hi : l0.length ≤ i := by
      have := congrArg List.length hd
      simp at this; omega
    refine ⟨e, S, by unfold forL; rw [if_pos (hg i e S h)], ?_⟩
    have q : i = l0.length := by omega
    rw [← q]; exact h
  | x :: r, i, _, hd, hb, e, S, h => by
    obtain ⟨hlt, hx, hr⟩ := drop_cons hd
    obtain ⟨e1, h1, e2, S2, h2, h3⟩ := hb i x e S (Nat.le_refl _) hx h
    obtain ⟨e', S', h4, h5⟩ := forL_inv I hg r (i + 1) hlt hr (fun j y e S hj hy h => hb j y e S (by omega) hy h) e2 S2 h3
    refine ⟨e', S', ?_, h5⟩
    unfold forL
    rw [if_pos (hg i e S h), h1]
    dsimp only
    rcases h2 with h2 | h2 <;> rw [h2] <;> exact h4
theorem for_inv {body : SF} (I : Nat → Envr → Store → Prop) (hi : it e S = .ok (l, g) S1) (hg : ∀ i e S, I i e S → gd g l S) (h0 : I 0 e S1) (hb : ∀ j x e S, l[j]? = some x → I j e S → ∃ e1, tg x e = some e1 ∧ ∃ e2 S2, (body e1 S = .nx e2 S2 ∨ body e1 S = .ct e2 S2) ∧ I (j + 1) e2 S2) :
    ∃ e' S', sFor it tg body e S = .nx e' S' ∧ I l.length e' S' := by
  obtain ⟨e', S', h1, h2⟩ := forL_inv (tg := tg) (body := body) I hg l 0 (Nat.zero_le _) rfl (fun j x e S _ hx h => hb j x e S hx h) e S1 h0
  refine ⟨e', S', ?_, h2⟩
  unfold sFor
  rw [hi]
  exact h1
/-! ### what is walked -/
theorem iAny_tup {f : EF} {m : List Dat} (h : f e S = .ok (.d (.tup m)) S1) : iAny f e S = .ok (m.map .d, none) S1 := by
  unfold iAny; rw [h]; rfl
theorem iAny_lst {f : EF} {m : List Dat} (h : f e S = .ok (.d (.lst m)) S1) : iAny f e S = .ok (m.map .d, none) S1 := by
  unfold iAny; rw [h]; rfl
theorem iAny_str {f : EF} {s : Str} (h : f e S = .ok (.d (.str s)) S1) : iAny f e S = .ok (signs s, none) S1 := by
  unfold iAny; rw [h]; rfl
theorem iAny_ref {f : EF} {i : Nat} {m : List Val} (h : f e S = .ok (.ref i) S1) (hm : S1[i]? = some (some (.lst m))) : iAny f e S = .ok (m, some i) S1 := by
  unfold iAny; rw [h]
  show (match lstOf S1 (.ref i) with
    | some l => _
    | none => _) = _
  rw [lstOf_ref.mpr hm]; rfl
theorem iRange1_n {f : EF} {n : Nat} (h : f e S = .ok (.d (.int n)) S1) (hn : n ≤ 1000000) : iRange1 f e S = .ok (rangeV 0 n, none) S1 := by
  unfold iRange1; rw [h]
  show (if -1000000 ≤ (n : Int) ∧ (n : Int) ≤ 1000000 then _ else _) = _
  rw [if_pos ⟨by omega, by omega⟩]; rfl
theorem rangeV_get {lo : Int} {n j : Nat} {x : Val} (h : (rangeV lo n)[j]? = some x) : j < n ∧ x = .d (.int (lo + j)) := by
  unfold rangeV at h
  rw [List.getElem?_map] at h
  by_cases q : j < n
  · rw [List.getElem?_range q] at h
    exact ⟨q, by cases h; rfl⟩
  · rw [List.getElem?_eq_none (by simpa using q)] at h
    cases h
theorem rangeV_len {lo : Int} {n : Nat} : (rangeV lo n).length = n := by simp [rangeV]
/-! ### in a written tuple of texts, in a text -/
theorem in_strs {s : Str} {l : List Str} : gInA false (.d (.str s)) (.d (.tup (l.map .str))) S = .ok (.d (.bl (decide (s ∈ l)))) S := by
  show gSel isDct2 (gDin false) (gIn false) _ _ S = _
  unfold gSel
  rw [if_neg (by show ¬ (dctOf S (.d (.tup _))).isSome = true; simp [dctOf])]
  unfold gIn inD
  show (match (if flat (.d (.str s)) = true ∧ ((l.map Dat.str).map Val.d).all flat = true then some (inF (.d (.str s)) ((l.map Dat.str).map Val.d)) else _) with
    | some b => okd (.bl (if false = true then !b else b)) S
    | none => .stuck) = _
  rw [if_pos ⟨rfl, by rw [List.map_map, List.all_map]; exact List.all_eq_true.mpr fun _ _ => rfl⟩]
  show Res.ok (Val.d (.bl (inF _ _))) S = _
  have : inF (.d (.str s)) ((l.map Dat.str).map Val.d) = decide (s ∈ l) := by
    unfold inF
    rw [List.map_map, List.any_map, Bool.eq_iff_iff, List.any_eq_true, decide_eq_true_eq]
    constructor
    · rintro ⟨y, hy, e⟩
      have e' : (y == s) = true := e
      rw [beq_iff_eq] at e'
      exact e' ▸ hy
    · intro h
      exact ⟨s, h, by show (s == s) = true; simp⟩
  rw [this]
theorem in_sign {k : Nat} {z : Str} (n : Bool) : gInA n (.d (.str ⟨#[k]⟩)) (.d (.str z)) S = .ok (.d (.bl (if n then !(decide (k ∈ z.cps.toList)) else decide (k ∈ z.cps.toList)))) S := by
  show gSel isDct2 (gDin n) (gIn n) _ _ S = _
  unfold gSel
  rw [if_neg (by show ¬ (dctOf S (.d (.str _))).isSome = true; simp [dctOf])]
  rfl
end
/-! ### items, slices -/
theorem sub_at {S : Store} {l : List Dat} {i : Nat} {x : Dat} (h : l[i]? = some x) : gSub (.d (.tup l)) (.d (.int i)) S = .ok (.d x) S := by
  unfold gSub gSel
  rw [if_neg (by simp [isDct, dctOf])]
  unfold gIx
  have h1 : L2.atI (l.map Val.d) (i : Int) = some (.d x) := by
    rw [atI_map]
    have hl := (List.getElem?_eq_some_iff.mp h).1
    unfold L2.atI L2.ixN
    rw [if_pos (by omega), if_pos (by omega)]
    simp [h]
  show (match L2.atI (l.map Val.d) (i : Int) with
    | some z => Res.ok z S
    | none => .stuck) = _
  rw [h1]
theorem len_tup {S : Store} {l : List Dat} : gLen (.d (.tup l)) S = .ok (.d (.int (l.length : Nat))) S := by
  show Res.ok (Val.d (.int (((l.map Val.d).length : Nat) : Int))) S = _
  rw [List.length_map]
theorem eq_str {S : Store} {a b : Str} : gEq (.d (.str a)) (.d (.str b)) S = .ok (.d (.bl (decide (a = b)))) S := rfl
theorem eq_int {S : Store} {a b : Int} : gEq (.d (.int a)) (.d (.int b)) S = .ok (.d (.bl (decide (a = b)))) S := rfl
theorem gcut_map {α β : Type} (f : α → β) (l : List α) (lo hi : Option Int) : gcut (l.map f) lo hi = (gcut l lo hi).map f := by
  unfold gcut
  rw [List.length_map, List.map_take, List.map_drop]
theorem mkTup_map (l : List Dat) : mkTup (l.map .d) = .d (.tup l) := by unfold mkTup; rw [dats_map]
theorem sli_tup {S : Store} {b : Bool} {l : List Dat} {lo hi : Option Int} : gSli b (.d (.tup l)) lo hi S = .ok (.d (.tup (gcut l lo hi))) S := by
  show Res.ok (mkTup (gcut (l.map Val.d) lo hi)) S = _
  rw [gcut_map, mkTup_map]
theorem sli_lst {S : Store} {l : List Dat} {lo hi : Option Int} : gSli false (.d (.lst l)) lo hi S = .ok (.d (.lst (gcut l lo hi))) S := by
  show mkL false (gcut (l.map Val.d) lo hi) S = _
  rw [gcut_map, mkF]
theorem gcut_from {α : Type} (l : List α) (k : Nat) : gcut l (some k) none = l.drop k := by
  unfold gcut
  rw [HT.sIx_nat, HT.sIx_none]
  by_cases h : k ≤ l.length
  · rw [Nat.min_eq_left h, List.take_of_length_le (by rw [List.length_drop]; omega)]
  · rw [Nat.min_eq_right (by omega), List.drop_eq_nil_of_le (by omega), List.drop_eq_nil_of_le (by omega)]; simp
theorem gcut_to {α : Type} (l : List α) (k : Nat) : gcut l none (some k) = l.take k := by
  unfold gcut
  rw [HT.sIx_nat, HT.sIx_none, List.drop_zero, Nat.sub_zero]
  by_cases h : k ≤ l.length
  · rw [Nat.min_eq_left h]
  · rw [Nat.min_eq_right (by omega), List.take_of_length_le (Nat.le_refl _), List.take_of_length_le (by omega)]
theorem gcut_mid {α : Type} (l : List α) (i j : Nat) : gcut l (some i) (some j) = (l.take j).drop i := by
  unfold gcut
  rw [HT.sIx_nat, HT.sIx_nat, List.drop_take]
  by_cases h : i ≤ l.length
  · rw [Nat.min_eq_left h]
    by_cases h2 : j ≤ l.length
    · rw [Nat.min_eq_left h2]
    · rw [Nat.min_eq_right (by omega), List.take_of_length_le (by rw [List.length_drop]; omega), List.take_of_length_le (by rw [List.length_drop]; omega)]
  · rw [Nat.min_eq_right (show l.length ≤ i by omega), List.drop_eq_nil_of_le (Nat.le_refl _), List.drop_eq_nil_of_le (by omega)]; simp
/-! ### steps of expressions -/
section
variable {e : Envr} {S S1 S2 S3 : Store} {f f' : EF} {fa : AF} {tb tb' : BF} {x y z : Val} {b : Bool} {l : List Val} {g : Val → Val → Store → Res Val} {r : Res Val} {rb : Res Bool} {v : VF}
theorem z_notT {x : Val} (h : f e S = .ok x S1) (hb : rtruth x S1 = .ok b S2) : eNotT f e S = .ok (.d (.bl (!b))) S2 := by unfold eNotT bTruth; rw [h]; dsimp only [rbind]; rw [hb]
theorem z_not (h : f e S = .ok (.d (.bl b)) S1) : eNot f e S = .ok (.d (.bl (!b))) S1 := by unfold eNot bVal; rw [h]; rfl
theorem z_val (h : f e S = .ok (.d (.bl b)) S1) : bVal f e S = .ok b S1 := by unfold bVal; rw [h]; rfl
theorem z_truth (h : f e S = .ok x S1) (hb : rtruth x S1 = rb) : bTruth f e S = rb := by unfold bTruth; rw [h]; exact hb
theorem z_truB (h : f e S = .ok (.d (.bl b)) S1) : bTruth f e S = .ok b S1 := by unfold bTruth; rw [h]; rfl
theorem z_bnot (h : tb e S = .ok b S1) : bNot tb e S = .ok (!b) S1 := by unfold bNot; rw [h]; rfl
theorem z_orT (h : tb e S = .ok true S1) : bOr tb tb' e S = .ok true S1 := by unfold bOr; rw [h]; rfl
theorem z_orF (h : tb e S = .ok false S1) (k : tb' e S1 = rb) : bOr tb tb' e S = rb := by unfold bOr; rw [h]; exact k
theorem z_andF (h : tb e S = .ok false S1) : bAnd tb tb' e S = .ok false S1 := by unfold bAnd; rw [h]; rfl
theorem z_andT (h : tb e S = .ok true S1) (k : tb' e S1 = rb) : bAnd tb tb' e S = rb := by unfold bAnd; rw [h]; exact k
theorem z_eandF (h : f e S = .ok (.d (.bl false)) S1) : eAnd f f' e S = .ok (.d (.bl false)) S1 := by unfold eAnd bVal; rw [h]; rfl
theorem z_eandT (h : f e S = .ok (.d (.bl true)) S1) (k : f' e S1 = r) : eAnd f f' e S = r := by unfold eAnd bVal; rw [h]; exact k
theorem z_eorT (h : f e S = .ok (.d (.bl true)) S1) : eOr f f' e S = .ok (.d (.bl true)) S1 := by unfold eOr bVal; rw [h]; rfl
theorem z_eorF (h : f e S = .ok (.d (.bl false)) S1) (k : f' e S1 = r) : eOr f f' e S = r := by unfold eOr bVal; rw [h]; exact k
theorem z_eif (h : tb e S = .ok b S1) (k : (if b = true then f e S1 else f' e S1) = r) : eIf tb f f' e S = r := by unfold eIf; rw [h]; exact k
theorem z_e1 {g : Val → Store → Res Val} (h : f e S = .ok x S1) (k : g x S1 = r) : e1 g f e S = r := by unfold e1; rw [h]; exact k
theorem z_e2 (h : f e S = .ok x S1) (h' : f' e S1 = .ok y S2) (k : g x y S2 = r) : e2 g f f' e S = r := by unfold e2; rw [h]; dsimp only [rbind]; rw [h']; exact k
theorem z_e2' (h : f e S = .ok x S1) (h' : f' e S1 = .ok y S2) (k : g x y S2 = r) : e2' g f f' e S = r := by unfold e2'; rw [h]; dsimp only [rbind]; rw [h']; exact k
theorem z_cons (h : f e S = .ok x S1) (h' : fa e S1 = .ok l S2) : aCons f fa e S = .ok (x :: l) S2 := by unfold aCons; rw [h]; dsimp only [rbind]; rw [h']
theorem z_nil : aNil e S = .ok [] S := rfl
theorem z_call (h : fa e S = .ok l S1) (k : v l S1 = r) : eCall v fa e S = r := by unfold eCall; rw [h]; exact k
theorem z_meth {cn m : Str} (h : f e S = .ok x S1) (hi : isIns cn m x S1 = true) (h' : fa e S1 = .ok l S2) (k : v (x :: l) S2 = r) : eMeth cn m v f fa e S = r := by unfold eMeth; rw [h]; dsimp only [rbind]; rw [if_pos hi, h']; exact k
theorem z_mt {g : Val → List Val → Store → Res Val} (h : f e S = .ok x S1) (hl : (lstOf S1 x).isSome = true) (h' : fa e S1 = .ok l S2) (k : g x l S2 = r) : eMt g f fa e S = r := by unfold eMt gIsL; rw [h]; dsimp only [rbind]; rw [if_pos hl]; dsimp only; rw [h']; exact k
theorem z_B {g : List Val → Store → Res Val} (h : fa e S = .ok l S1) (k : g l S1 = r) : eB g fa e S = r := by unfold eB; rw [h]; exact k
theorem z_tup {m : List Dat} (h : fa e S = .ok (m.map .d) S1) (hm : m.length ≤ 100000) : eTup fa e S = .ok (.d (.tup m)) S1 := by
  unfold eTup rtup; rw [h]; dsimp only [rbind]
  rw [if_pos (by rw [List.length_map]; exact hm), mkTup_map]
theorem z_sli {lo hi : Option Int} {fl fh : OF} {b : Bool} (h : f e S = .ok x S1) (hl : fl e S1 = .ok lo S2) (hh : fh e S2 = .ok hi S3) (k : gSli b x lo hi S3 = r) : eSli b f fl fh e S = r := by
  unfold eSli; rw [h]; dsimp only [rbind]; rw [hl]; dsimp only; rw [hh]; exact k
theorem z_some {i : Int} (h : f e S = .ok (.d (.int i)) S1) : oSome f e S = .ok (some i) S1 := by unfold oSome; rw [h]; rfl
theorem z_chain {g1 g2 : Val → Val → Store → Res Val} {f1 f2 f3 : EF} {b : Bool} (h1 : f1 e S = .ok x S1) (h2 : f2 e S1 = .ok y S2) (h : g1 x y S2 = .ok (.d (.bl b)) S2) (k : (if b = true then rbind (f3 e S2) (fun z S => g2 y z S) else .ok (.d (.bl false)) S2) = r) : eChain g1 g2 f1 f2 f3 e S = r := by
  unfold eChain; rw [h1]; dsimp only [rbind]; rw [h2]; dsimp only; rw [h]; dsimp only [rbool]; exact k
end
end Z
set_option Elab.async false
set_option linter.all false
set_option maxRecDepth 100000
set_option maxHeartbeats 4000000
namespace Z
open PySem L2 Evl NdefX LamX
/-! ## stores: what stands where -/
section
variable {S : Store} {i j : Nat} {c d : Cell} {f : Str} {l : List (Str × Val)} {cs : List Str} {y : Val}
theorem get_set_same {o : Option Cell} (h : i < S.length) : (S.set i o)[i]? = some o := List.getElem?_set_self h
theorem get_set_ne {o : Option Cell} (h : i ≠ j) : (S.set i o)[j]? = S[j]? := List.getElem?_set_ne h
theorem live_ne {S : Store} (h : S[i]? = some (some c)) (k : S[j]? = some (some d)) (n : c ≠ d) : i ≠ j := fun e => by subst e; rw [h] at k; cases k; exact n rfl
theorem lt_of {o : Option Cell} (h : S[i]? = some o) : i < S.length := (List.getElem?_eq_some_iff.mp h).1
theorem fld_at {C : Str} (h : S[i]? = some (some (.ins C l))) (hc : C ∈ cs) (hl : l.lookup f = some y) : gFld cs f (.ref i) S = .ok y S := by
  unfold gFld
  have e : insOf S (.ref i) = some (C, l) := by show (match S[i]? with | some (some (.ins c l)) => _ | _ => none) = _; rw [h]
  rw [e]
  dsimp only
  rw [if_pos hc, hl]
theorem fput_at {C : Str} (h : S[i]? = some (some (.ins C l))) (hc : C ∈ cs) (hl : l.length < 1000) : gFput cs f (.ref i) y S = some (S.set i (some (.ins C (fput f y l)))) := by
  unfold gFput
  dsimp only
  rw [h]
  dsimp only
  rw [if_pos ⟨hc, hl⟩]
theorem isIns_at {C : Str} {m : Str} (h : S[i]? = some (some (.ins C l))) (hl : (l.lookup m).isNone = true) : isIns C m (.ref i) S = true := by
  unfold isIns
  dsimp only
  rw [h]
  dsimp only
  rw [hl]; simp
theorem dct_at {l : List (Key × Val)} (h : S[i]? = some (some (.dct l))) : dctOf S (.ref i) = some l := by
  show (match S[i]? with | some (some (.dct l)) => some l | _ => none) = _
  rw [h]
theorem sub_dct {l : List (Key × Val)} {k : Val} {q : Key} (h : S[i]? = some (some (.dct l))) (hk : keyOf k = some q) (hg : kget l q = some y) : gSub (.ref i) k S = .ok y S := by
  unfold gSub gSel
  rw [if_pos (by unfold isDct; rw [dct_at h]; rfl)]
  unfold gDget
  rw [dct_at h, hk]
  dsimp only
  rw [hg]
theorem in_dct {l : List (Key × Val)} {k : Val} {q : Key} (n : Bool) (h : S[i]? = some (some (.dct l))) (hk : keyOf k = some q) : gInA n k (.ref i) S = .ok (.d (.bl (if n then !(kget l q).isSome else (kget l q).isSome))) S := by
  unfold gInA gSel
  rw [if_pos (by unfold isDct2; rw [dct_at h]; rfl)]
  unfold gDin
  rw [dct_at h, hk]; rfl
theorem dput_at {l : List (Key × Val)} {k : Val} {q : Key} (h : S[i]? = some (some (.dct l))) (hk : keyOf k = some q) (hl : l.length < 100000) : gDput (.ref i) k y S = some (S.set i (some (.dct (kput l q y)))) := by
  unfold gDput
  dsimp only
  rw [h, hk]
  dsimp only
  rw [if_pos hl]
theorem pop_at {l : List (Key × Val)} {k : Val} {q : Key} (h : S[i]? = some (some (.dct l))) (hk : keyOf k = some q) (hg : kget l q = some y) : gPop (.ref i) k S = .ok y (S.set i (some (.dct (kdrop l q)))) := by
  unfold gPop
  dsimp only
  rw [h, hk]
  dsimp only
  rw [hg]
theorem lst_at {m : List Val} (h : S[i]? = some (some (.lst m))) : lstOf S (.ref i) = some m := lstOf_ref.mpr h
theorem cell_at {m : List Val} (h : S[i]? = some (some (.lst m))) : cellL S (.ref i) = some (i, m) := by unfold cellL; dsimp only; rw [h]
theorem len_ref {m : List Val} (h : S[i]? = some (some (.lst m))) : gLen (.ref i) S = .ok (.d (.int (m.length : Nat))) S := by
  unfold gLen lenOf seqOf
  dsimp only
  rw [lst_at h]; rfl
theorem get_mid {o : Option Cell} {T : Store} : (S ++ o :: T)[S.length]? = some o := by simp
theorem set_mid {o o' : Option Cell} {T : Store} : (S ++ o :: T).set S.length o' = S ++ o' :: T := by simp
theorem app_snoc {T : Store} {o : Option Cell} : S ++ T ++ [o] = S ++ (T ++ [o]) := List.append_assoc ..
theorem z_dct0 {e : Envr} : eDct0 e S = .ok (.ref S.length) (S ++ [some (.dct [])]) := rfl
theorem z_lst0 {e : Envr} : eLst aNil e S = .ok (.ref S.length) (S ++ [some (.lst [])]) := rfl
theorem get_last {o : Option Cell} : (S ++ [o])[S.length]? = some o := by simp
theorem get_app {T : Store} (h : i < S.length) : (S ++ T)[i]? = S[i]? := List.getElem?_append_left h
theorem set_last {o o' : Option Cell} : (S ++ [o]).set S.length o' = S ++ [o'] := by simp
theorem z_fput {e : Envr} {S S1 S2 S3 : Store} {f : Str} {cs : List Str} {fo fv : EF} {x y : Val} (hv : fv e S = .ok y S1) (ho : fo e S1 = .ok x S2) (h : gFput cs f x y S2 = some S3) : sFput cs f fo fv e S = .nx e S3 := by
  unfold sFput; rw [hv]; dsimp only [sbind]; rw [ho]; dsimp only; rw [h]
theorem z_faug {e : Envr} {S S1 : Store} {f : Str} {cs : List Str} {fo fv : EF} {a b : Int} {C : Str} {l : List (Str × Val)} (ho : fo e S = .ok (.ref i) S1) (hi : S1[i]? = some (some (.ins C l))) (hc : C ∈ cs) (hl : l.lookup f = some (.d (.int a))) (hn : l.length < 1000) (hv : fv e S1 = .ok (.d (.int b)) S1) :
    sFaug cs f fo fv e S = .nx e (S1.set i (some (.ins C (fput f (.d (.int (a + b))) l)))) := by
  unfold sFaug; rw [ho]; dsimp only [sbind]
  have e1 : insOf S1 (.ref i) = some (C, l) := by show (match S1[i]? with | some (some (.ins c l)) => _ | _ => none) = _; rw [hi]
  rw [e1]; dsimp only; rw [if_pos hc, hl]; dsimp only; rw [hv]; dsimp only [intOf]
  rw [fput_at hi (List.mem_singleton.mpr rfl) hn]
theorem z_dput {e : Envr} {S S1 S2 S3 S4 : Store} {fo fk fv : EF} {x y z : Val} (hv : fv e S = .ok z S1) (ho : fo e S1 = .ok x S2) (hk : fk e S2 = .ok y S3) (h : gDput x y z S3 = some S4) : sDput fo fk fv e S = .nx e S4 := by
  unfold sDput; rw [hv]; dsimp only [sbind]; rw [ho]; dsimp only; rw [hk]; dsimp only; rw [h]
theorem z_pop {e : Envr} {S S1 : Store} {fo fk : EF} {k y : Val} {q : Key} {l : List (Key × Val)} (ho : fo e S = .ok (.ref i) S1) (hd : S1[i]? = some (some (.dct l))) (hk : fk e S1 = .ok k S1) (hq : keyOf k = some q) (hg : kget l q = some y) : ePop fo fk e S = .ok y (S1.set i (some (.dct (kdrop l q)))) := by
  unfold ePop; rw [ho]; dsimp only [rbind]
  unfold gIsD
  rw [if_pos (by rw [dct_at hd]; rfl)]
  dsimp only
  rw [hk]
  dsimp only
  rw [pop_at hd hq hg]
/-! ### keys -/
theorem kget_map {κ μ α β : Type} [DecidableEq κ] [DecidableEq μ] (f : κ → μ) (hf : ∀ a b, f a = f b → a = b) (g : α → β) : ∀ (l : List (κ × α)) (k : κ), kget (l.map fun p => (f p.1, g p.2)) (f k) = (kget l k).map g
  | [], _ => rfl
  | (a, x) :: r, k => by
    show (if f a = f k then some (g x) else kget (r.map fun p => (f p.1, g p.2)) (f k)) = Option.map g (if a = k then some x else kget r k)
    by_cases h : a = k
    · rw [if_pos h, if_pos (congrArg f h)]; rfl
    · rw [if_neg h, if_neg (fun e => h (hf _ _ e)), kget_map f hf g r k]
theorem kget_none {κ α : Type} [DecidableEq κ] : ∀ {l : List (κ × α)} {k : κ}, k ∉ l.map (·.1) → kget l k = none
  | [], _, _ => rfl
  | (a, x) :: r, k, h => by
    unfold kget
    rw [if_neg (fun e => h (by rw [e]; exact .head _)), kget_none (fun m => h (.tail _ m))]
theorem kget_some {κ α : Type} [DecidableEq κ] : ∀ {l : List (κ × α)} {k : κ}, k ∈ l.map (·.1) → ∃ x, kget l k = some x ∧ (k, x) ∈ l
  | (a, x) :: r, k, h => by
    unfold kget
    by_cases q : a = k
    · exact ⟨x, if_pos q, by rw [← q]; exact .head _⟩
    · obtain ⟨y, h1, h2⟩ := kget_some (l := r) (k := k) (by
        rcases List.mem_cons.mp h with e | m
        · exact absurd e.symm q
        · exact m)
      exact ⟨y, by rw [if_neg q]; exact h1, .tail _ h2⟩
theorem kget_mem {κ α : Type} [DecidableEq κ] : ∀ {l : List (κ × α)} {k : κ} {x : α}, kget l k = some x → (k, x) ∈ l
  | (a, y) :: r, k, x, h => by
    unfold kget at h
    by_cases q : a = k
    · rw [if_pos q] at h; cases h; rw [← q]; exact .head _
    · rw [if_neg q] at h; exact .tail _ (kget_mem h)
theorem kget_iff {κ α : Type} [DecidableEq κ] {l : List (κ × α)} {k : κ} : (kget l k).isSome = true ↔ k ∈ l.map (·.1) := by
  constructor
  · intro h
    obtain ⟨x, hx⟩ := Option.isSome_iff_exists.mp h
    exact List.mem_map.mpr ⟨(k, x), kget_mem hx, rfl⟩
  · intro h
    obtain ⟨x, hx, _⟩ := kget_some h
    rw [hx]; rfl
theorem kget_of {κ α : Type} [DecidableEq κ] : ∀ {l : List (κ × α)} {k : κ} {x : α}, (l.map (·.1)).Nodup → (k, x) ∈ l → kget l k = some x
  | (a, y) :: r, k, x, nd, h => by
    rw [List.map_cons, List.nodup_cons] at nd
    unfold kget
    rcases List.mem_cons.mp h with e | m
    · cases e; rw [if_pos rfl]
    · rw [if_neg (fun e => nd.1 (by rw [e]; exact List.mem_map.mpr ⟨_, m, rfl⟩)), kget_of nd.2 m]
theorem kput_new {κ α : Type} [DecidableEq κ] {l : List (κ × α)} {k : κ} {x : α} (h : k ∉ l.map (·.1)) : kput l k x = l ++ [(k, x)] := by
  unfold kput
  rw [if_neg]
  intro e
  obtain ⟨p, hp, e⟩ := List.any_eq_true.mp e
  exact h (List.mem_map.mpr ⟨p, hp, of_decide_eq_true e⟩)
end
/-! ## notebooks -/
structure CellM where
  src : List Rw
  count : Int
  struck : Bool
  rcd : Dat
def cellO (m : CellM) : Cell := .ins "Cell" [("lines", .d (enc m.src)), ("count", .d (.int m.count)), ("struck", .d (.bl m.struck)), ("record", .d m.rcd)]
structure NbM where
  b : Nat
  c : Nat
  r : Nat
  after : Int
  cells : List (Int × Nat × CellM)
  row : List Int
def NbM.dct (m : NbM) : List (Key × Val) := m.cells.map fun p => (Sum.inl p.1, Val.ref p.2.1)
def nums (l : List Int) : List Val := l.map fun n => .d (.int n)
structure NbAt (S : Store) (m : NbM) : Prop where
  ins : S[m.b]? = some (some (.ins "Notebook" [("cells", .ref m.c), ("row", .ref m.r), ("after", .d (.int m.after))]))
  dct : S[m.c]? = some (some (.dct m.dct))
  lst : S[m.r]? = some (some (.lst (nums m.row)))
  cell : ∀ p ∈ m.cells, S[p.2.1]? = some (some (cellO p.2.2))
  inj : (m.cells.map (·.2.1)).Nodup
/-- a notebook in order -/
structure NbOk (m : NbM) : Prop where
  key : (m.cells.map (·.1)).Nodup
  low : ∀ p ∈ m.cells, 0 ≤ p.1 ∧ p.1 < m.after
  nod : m.row.Nodup
  mem : ∀ n, n ∈ m.row ↔ n ∈ m.cells.map (·.1)
  few : m.row.length ≤ 30
  src : ∀ p ∈ m.cells, okSrc p.2.2.src
  pos : 0 ≤ m.after
theorem NbOk.len {m : NbM} (o : NbOk m) : m.cells.length = m.row.length := by
  have h : (m.cells.map (·.1)).Perm m.row := (List.perm_ext_iff_of_nodup o.key o.nod).mpr fun a => (o.mem a).symm
  have := h.length_eq
  rwa [List.length_map] at this
/-- the places that are a notebook's own -/
def NbM.foot (m : NbM) : List Nat := m.b :: m.c :: m.r :: m.cells.map (·.2.1)
/-- all but these stands as it did -/
structure Kept (foot : List Nat) (S S' : Store) : Prop where
  len : S.length ≤ S'.length
  at_ : ∀ i, i < S.length → i ∉ foot → S'[i]? = S[i]?
theorem Kept.refl {f : List Nat} {S : Store} : Kept f S S := ⟨Nat.le_refl _, fun _ _ _ => rfl⟩
theorem Kept.trans {f g h : List Nat} {S S1 S2 : Store} (a : Kept f S S1) (b : Kept g S1 S2) (hf : ∀ i, i ∈ f → i ∈ h) (hg : ∀ i, i < S.length → i ∈ g → i ∈ h) : Kept h S S2 :=
  ⟨Nat.le_trans a.len b.len, fun i hi n => (b.at_ i (Nat.lt_of_lt_of_le hi a.len) fun m => n (hg i hi m)).trans (a.at_ i hi fun m => n (hf i m))⟩
theorem NbAt.frame {S S' : Store} {m : NbM} {f : List Nat} (h : NbAt S m) (k : Kept f S S') (d : ∀ i ∈ m.foot, i ∉ f) : NbAt S' m := by
  have t : ∀ {i o}, S[i]? = some o → i ∈ m.foot → S'[i]? = some o := fun e hm => (k.at_ _ (lt_of e) (d _ hm)).trans e
  exact ⟨t h.ins (.head _), t h.dct (.tail _ (.head _)), t h.lst (.tail _ (.tail _ (.head _))), fun p hp => t (h.cell p hp) (.tail _ (.tail _ (.tail _ (List.mem_map.mpr ⟨p, hp, rfl⟩)))), h.inj⟩
section
variable {S : Store} {m : NbM}
theorem NbAt.bc (h : NbAt S m) : m.b ≠ m.c := live_ne h.ins h.dct (by intro e; cases e)
theorem NbAt.br (h : NbAt S m) : m.b ≠ m.r := live_ne h.ins h.lst (by intro e; cases e)
theorem NbAt.cr (h : NbAt S m) : m.c ≠ m.r := live_ne h.dct h.lst (by intro e; cases e)
theorem NbAt.pb (h : NbAt S m) {p : Int × Nat × CellM} (hp : p ∈ m.cells) : p.2.1 ≠ m.b := live_ne (h.cell p hp) h.ins (by
  intro e
  simp only [cellO, Cell.ins.injEq, str_inj] at e
  exact absurd e.1 (by decide))
theorem NbAt.pc (h : NbAt S m) {p : Int × Nat × CellM} (hp : p ∈ m.cells) : p.2.1 ≠ m.c := live_ne (h.cell p hp) h.dct (by intro e; cases e)
theorem NbAt.pr (h : NbAt S m) {p : Int × Nat × CellM} (hp : p ∈ m.cells) : p.2.1 ≠ m.r := live_ne (h.cell p hp) h.lst (by intro e; cases e)
theorem NbM.kget (m : NbM) (n : Int) : Z.kget m.dct (Sum.inl n) = (Z.kget m.cells n).map fun q => Val.ref q.1 :=
  kget_map (κ := Int) (μ := Key) Sum.inl (fun a b e => Sum.inl.inj e) (fun q : Nat × CellM => Val.ref q.1) m.cells n
theorem NbAt.lt (h : NbAt S m) : ∀ i ∈ m.foot, i < S.length := by
  intro i hi
  rcases List.mem_cons.mp hi with rfl | hi
  · exact lt_of h.ins
  · rcases List.mem_cons.mp hi with rfl | hi
    · exact lt_of h.dct
    · rcases List.mem_cons.mp hi with rfl | hi
      · exact lt_of h.lst
      · obtain ⟨p, hp, rfl⟩ := List.mem_map.mp hi
        exact lt_of (h.cell p hp)
end
/-! ### a cell changed -/
def NbM.setc (m : NbM) (n : Int) (c : CellM) : NbM := { m with cells := m.cells.map fun p => if p.1 = n then (p.1, p.2.1, c) else p }
section
variable {S : Store} {m : NbM} {n : Int} {j : Nat} {c c' : CellM}
theorem setc_keys : (m.setc n c).cells.map (·.1) = m.cells.map (·.1) := by
  unfold NbM.setc
  rw [List.map_map]
  refine List.map_congr_left fun p _ => ?_
  show (if p.1 = n then (p.1, p.2.1, c) else p).1 = p.1
  split <;> rfl
theorem setc_idx : (m.setc n c).cells.map (·.2.1) = m.cells.map (·.2.1) := by
  unfold NbM.setc
  rw [List.map_map]
  refine List.map_congr_left fun p _ => ?_
  show (if p.1 = n then (p.1, p.2.1, c) else p).2.1 = p.2.1
  split <;> rfl
theorem setc_dct : (m.setc n c).dct = m.dct := by
  unfold NbM.dct NbM.setc
  rw [List.map_map]
  refine List.map_congr_left fun p _ => ?_
  show (Sum.inl (if p.1 = n then (p.1, p.2.1, c) else p).1, Val.ref (if p.1 = n then (p.1, p.2.1, c) else p).2.1) = (Sum.inl p.1, Val.ref p.2.1)
  split <;> rfl
theorem setc_foot : (m.setc n c).foot = m.foot := by unfold NbM.foot; rw [setc_idx]; rfl
theorem setc_mem {p : Int × Nat × CellM} (h : p ∈ (m.setc n c).cells) : ∃ q ∈ m.cells, p.1 = q.1 ∧ p.2.1 = q.2.1 ∧ ((q.1 = n ∧ p.2.2 = c) ∨ (q.1 ≠ n ∧ p.2.2 = q.2.2)) := by
  unfold NbM.setc at h
  obtain ⟨q, hq, rfl⟩ := List.mem_map.mp h
  refine ⟨q, hq, ?_⟩
  by_cases e : q.1 = n
  · rw [if_pos e]; exact ⟨rfl, rfl, .inl ⟨e, rfl⟩⟩
  · rw [if_neg e]; exact ⟨rfl, rfl, .inr ⟨e, rfl⟩⟩
theorem setc_get {k : Int} : kget (m.setc n c).cells k = (kget m.cells k).map fun q => if k = n then (q.1, c) else q := by
  unfold NbM.setc
  show kget (m.cells.map _) k = _
  generalize m.cells = l
  induction l with
  | nil => rfl
  | cons p r ih =>
    rw [List.map_cons]
    unfold kget
    by_cases e : p.1 = n
    · by_cases e2 : p.1 = k
      · simp [e, e2, ← e2]
      · have : ¬ n = k := fun z => e2 (e.trans z)
        simp only [e, if_true, this, if_false]
        exact ih
    · by_cases e2 : p.1 = k
      · have : ¬ k = n := fun z => e (e2.trans z)
        simp [e, e2, this]
      · simp only [e, if_false, e2]
        exact ih
theorem pair_of {l : List (Int × Nat × CellM)} {n : Int} {q p : Nat × CellM} (nd : (l.map (·.2.1)).Nodup) (h1 : (n, q) ∈ l) {k : Int} (h2 : (k, p) ∈ l) (e : q.1 = p.1) : n = k ∧ q = p := by
  induction l with
  | nil => cases h1
  | cons a r ih =>
    rw [List.map_cons, List.nodup_cons] at nd
    rcases List.mem_cons.mp h1 with a1 | a1 <;> rcases List.mem_cons.mp h2 with a2 | a2
    · rw [← a2] at a1; cases a1; exact ⟨rfl, rfl⟩
    · exact absurd (List.mem_map.mpr ⟨_, a2, by rw [← a1]; exact e.symm⟩) nd.1
    · exact absurd (List.mem_map.mpr ⟨_, a1, by rw [← a2]; exact e⟩) nd.1
    · exact ih nd.2 a1 a2
theorem NbAt.setc (h : NbAt S m) (hk : (m.cells.map (·.1)).Nodup) (hq : kget m.cells n = some (j, c)) : NbAt (S.set j (some (cellO c'))) (m.setc n c') := by
  have hm := kget_mem hq
  have lj := lt_of (h.cell _ hm)
  refine ⟨(get_set_ne (h.pb hm)).trans h.ins, ?_, (get_set_ne (h.pr hm)).trans h.lst, fun p hp => ?_, by rw [setc_idx]; exact h.inj⟩
  · rw [setc_dct]; exact (get_set_ne (h.pc hm)).trans h.dct
  · obtain ⟨q, hq', e1, e2, e3⟩ := setc_mem hp
    rw [e2]
    rcases e3 with ⟨e3, e4⟩ | ⟨e3, e4⟩
    · rw [e4]
      have : q.2.1 = j := by
        obtain ⟨a, b, d⟩ := q
        have e3' : a = n := e3
        subst e3'
        have := kget_of hk hq'
        rw [this] at hq
        cases hq; rfl
      rw [this]; exact get_set_same lj
    · rw [e4, get_set_ne (fun e => e3 ((pair_of h.inj hm (k := q.1) (p := q.2) hq' e).1).symm)]
      exact h.cell q hq'
theorem NbOk.setc (o : NbOk m) (hs : okSrc c.src) : NbOk (m.setc n c) :=
  ⟨by rw [setc_keys]; exact o.key, fun p hp => by
    obtain ⟨q, hq, e1, _, _⟩ := setc_mem hp
    rw [e1]; exact o.low q hq, o.nod, fun k => by rw [setc_keys]; exact o.mem k, o.few, fun p hp => by
    obtain ⟨q, hq, _, _, e3⟩ := setc_mem hp
    rcases e3 with ⟨_, e⟩ | ⟨_, e⟩
    · rw [e]; exact hs
    · rw [e]; exact o.src q hq, o.pos⟩
theorem NbOk.at_ (o : NbOk m) (h : n ∈ m.row) : ∃ q, kget m.cells n = some q ∧ 0 ≤ n ∧ n < m.after ∧ okSrc q.2.src := by
  obtain ⟨q, hq, hm⟩ := kget_some ((o.mem n).mp h)
  exact ⟨q, hq, (o.low _ hm).1, (o.low _ hm).2, o.src _ hm⟩
theorem NbOk.in_row (o : NbOk m) {q : Nat × CellM} (h : kget m.cells n = some q) : n ∈ m.row := (o.mem n).mpr (List.mem_map.mpr ⟨_, kget_mem h, rfl⟩)
theorem posOf_mem {l : List Int} (h : n ∈ l) : ∃ k, posOf n l = some k ∧ k < l.length ∧ l[k]? = some n := by
  cases e : posOf n l with
  | none =>
    unfold posOf at e
    rw [List.findIdx?_eq_none_iff] at e
    have := e n h
    simp at this
  | some k =>
    have := (posOf_some e).1
    exact ⟨k, rfl, (List.getElem?_eq_some_iff.mp this).1, this⟩
end
/-! ### what a method has made besides is forgotten -/
theorem below_ref {n i : Nat} (h : i < n) : below n (.ref i) = true := by rw [below]; exact decide_eq_true h
theorem belows_iff {n : Nat} : ∀ {l : List Val}, belows n l = true ↔ ∀ x ∈ l, below n x = true
  | [] => by simp [belows]
  | x :: r => by rw [belows, Bool.and_eq_true, belows_iff]; simp
theorem belows_d {n : Nat} (l : List Dat) : belows n (l.map .d) = true := belows_iff.mpr fun x hx => by
  obtain ⟨d, _, rfl⟩ := List.mem_map.mp hx; rfl
theorem trim_nb {S T U : Store} {m : NbM} (h : NbAt T m) (hl : T.length = S.length) (hk : ∀ i, i < S.length → i ∉ m.foot → T[i]? = S[i]?) : trim S (T ++ U) = some T := by
  refine trim_pre hl.symm fun i c hi hc => ?_
  have hi' : i < S.length := by omega
  by_cases hm : i ∈ m.foot
  · refine .inr ?_
    have lt : ∀ j ∈ m.foot, j < S.length := fun j hj => by rw [← hl]; exact h.lt j hj
    rcases List.mem_cons.mp hm with rfl | hm
    · have : live T m.b _ := h.ins
      unfold live at this hc
      rw [this] at hc; cases hc
      show belows S.length [.ref m.c, .ref m.r, .d (.int m.after)] = true
      simp only [belows, below, decide_eq_true (lt m.c (.tail _ (.head _))), decide_eq_true (lt m.r (.tail _ (.tail _ (.head _)))), Bool.and_true]
    · rcases List.mem_cons.mp hm with rfl | hm
      · have := h.dct
        unfold live at hc
        rw [this] at hc; cases hc
        show belows S.length (m.dct.map (·.2)) = true
        refine belows_iff.mpr fun x hx => ?_
        unfold NbM.dct at hx
        rw [List.map_map] at hx
        obtain ⟨p, hp, rfl⟩ := List.mem_map.mp hx
        exact below_ref (lt _ (.tail _ (.tail _ (.tail _ (List.mem_map.mpr ⟨p, hp, rfl⟩)))))
      · rcases List.mem_cons.mp hm with rfl | hm
        · have := h.lst
          unfold live at hc
          rw [this] at hc; cases hc
          show belows S.length (nums m.row) = true
          exact belows_iff.mpr fun x hx => by
            obtain ⟨n, _, rfl⟩ := List.mem_map.mp hx; rfl
        · obtain ⟨p, hp, rfl⟩ := List.mem_map.mp hm
          have := h.cell p hp
          unfold live at hc
          rw [this] at hc; cases hc
          rfl
  · exact .inl (hk i hi' hm)
theorem trim_nb0 {S T : Store} {m : NbM} (h : NbAt T m) (hl : T.length = S.length) (hk : ∀ i, i < S.length → i ∉ m.foot → T[i]? = S[i]?) : trim S T = some T := by
  have := trim_nb (U := []) h hl hk
  rwa [List.append_nil] at this
/-! ### a cell dropped -/
def NbM.drop (m : NbM) (n : Int) : NbM := { m with cells := m.cells.filter fun p => decide (p.1 ≠ n), row := m.row.erase n }
theorem posOf_erase {n : Int} : ∀ {l : List Int} {k : Nat}, posOf n l = some k → l.eraseIdx k = l.erase n
  | [], k, h => by simp [posOf] at h
  | a :: r, k, h => by
    unfold posOf at h
    rw [List.findIdx?_cons] at h
    by_cases e : a = n
    · subst e
      simp at h
      subst h
      simp
    · have hb : (a == n) = false := by simpa using e
      simp only [hb, Bool.false_eq_true, if_false] at h
      cases q : List.findIdx? (fun x => x == n) r with
      | none => rw [q] at h; cases h
      | some i =>
        rw [q] at h
        simp at h
        subst h
        rw [List.eraseIdx_cons_succ, posOf_erase (l := r) (k := i) q, List.erase_cons_tail (by simpa using e)]
theorem NbAt.drop {S : Store} {m : NbM} {n : Int} (h : NbAt S m) : NbAt ((S.set m.r (some (.lst (nums (m.row.erase n))))).set m.c (some (.dct (m.drop n).dct))) (m.drop n) := by
  have lc := h.lt m.c (.tail _ (.head _))
  have lr := h.lt m.r (.tail _ (.tail _ (.head _)))
  refine ⟨?_, get_set_same (by simpa using lc), ?_, fun p hp => ?_, ?_⟩
  · show _[m.b]? = _
    rw [get_set_ne h.bc.symm, get_set_ne h.br.symm]; exact h.ins
  · show _[m.r]? = _
    rw [get_set_ne h.cr]; exact get_set_same lr
  · have hp' := (List.mem_filter.mp hp).1
    rw [get_set_ne (h.pc hp').symm, get_set_ne (h.pr hp').symm]; exact h.cell p hp'
  · exact h.inj.sublist (List.Sublist.map _ List.filter_sublist)
theorem NbOk.drop {m : NbM} (o : NbOk m) (n : Int) : NbOk (m.drop n) := by
  refine ⟨o.key.sublist (List.Sublist.map _ List.filter_sublist), fun p hp => o.low p (List.mem_filter.mp hp).1, o.nod.sublist List.erase_sublist, fun k => ?_, ?_, fun p hp => o.src p (List.mem_filter.mp hp).1, o.pos⟩
  · show k ∈ m.row.erase n ↔ k ∈ (m.cells.filter fun p => decide (p.1 ≠ n)).map (·.1)
    rw [o.nod.mem_erase_iff, o.mem]
    constructor
    · rintro ⟨h1, h2⟩
      obtain ⟨p, hp, rfl⟩ := List.mem_map.mp h2
      exact List.mem_map.mpr ⟨p, List.mem_filter.mpr ⟨hp, decide_eq_true h1⟩, rfl⟩
    · intro h
      obtain ⟨p, hp, rfl⟩ := List.mem_map.mp h
      obtain ⟨h1, h2⟩ := List.mem_filter.mp hp
      exact ⟨of_decide_eq_true h2, List.mem_map.mpr ⟨p, h1, rfl⟩⟩
  · show (m.row.erase n).length ≤ 30
    have h1 := List.length_erase_le (a := n) (l := m.row)
    have h2 := o.few
    omega
theorem drop_foot {m : NbM} {n : Int} : ∀ i ∈ (m.drop n).foot, i ∈ m.foot := fun i hi => by
  rcases List.mem_cons.mp hi with rfl | hi
  · exact .head _
  · rcases List.mem_cons.mp hi with rfl | hi
    · exact .tail _ (.head _)
    · rcases List.mem_cons.mp hi with rfl | hi
      · exact .tail _ (.tail _ (.head _))
      · obtain ⟨p, hp, rfl⟩ := List.mem_map.mp hi
        exact .tail _ (.tail _ (.tail _ (List.mem_map.mpr ⟨p, (List.mem_filter.mp hp).1, rfl⟩)))
theorem drop_get {m : NbM} {n k : Int} : kget (m.drop n).cells k = if k = n then none else kget m.cells k := by
  show kget (m.cells.filter fun p => decide (p.1 ≠ n)) k = _
  generalize m.cells = l
  induction l with
  | nil => simp [kget]
  | cons a r ih =>
    rw [List.filter_cons]
    by_cases e : a.1 = n
    · rw [if_neg (by simp [e]), ih]
      by_cases e2 : k = n
      · rw [if_pos e2, if_pos e2]
      · rw [if_neg e2, if_neg e2]
        conv => rhs; unfold kget
        rw [if_neg (fun z => e2 (z.symm.trans e))]
    · rw [if_pos (by simp [e])]
      unfold kget
      by_cases e2 : a.1 = k
      · rw [if_pos e2, if_pos e2, if_neg (fun z => e (e2.trans z))]
      · rw [if_neg e2, if_neg e2, ih]
/-! ### lists of data -/
section
variable {S S1 : Store} {e : Envr}
theorem z_frzl {fa : AF} {l : List Dat} (h : fa e S = .ok (l.map .d) S1) (hl : l.length ≤ 100000) : eFrz (eLst fa) e S = .ok (.d (.lst l)) (S1 ++ [none]) := by
  unfold eFrz eLst
  rw [h]
  dsimp only [rbind]
  unfold rlst
  rw [if_pos (by rw [List.length_map]; exact hl)]
  dsimp only
  unfold rfrz
  dsimp only
  rw [get_last]
  dsimp only [frz]
  rw [dats_map]
  dsimp only [Option.map_some]
  rw [set_last]
theorem add_tup {b : Bool} {l m : List Dat} (h : l.length + m.length ≤ 100000) : gAdd b (.d (.tup l)) (.d (.tup m)) S = .ok (.d (.tup (l ++ m))) S := by
  show (if (l.map Val.d).length + (m.map Val.d).length ≤ 100000 then Res.ok (mkTup (l.map .d ++ m.map .d)) S else .stuck) = _
  rw [if_pos (by rw [List.length_map, List.length_map]; exact h), ← List.map_append, mkTup_map]
theorem add_lst {l m : List Dat} (h : l.length + m.length ≤ 100000) : gAdd false (.d (.lst l)) (.d (.lst m)) S = .ok (.d (.lst (l ++ m))) S := by
  show (if (l.map Val.d).length + (m.map Val.d).length ≤ 100000 then mkL false (l.map .d ++ m.map .d) S else .stuck) = _
  rw [if_pos (by rw [List.length_map, List.length_map]; exact h), ← List.map_append, mkF]
theorem ne_fine {x y : Dat} (hx : fineD x) (hy : fineD y) : gNe (.d x) (.d y) S = .ok (.d (.bl (!decide (x = y)))) S := by
  unfold gNe; rw [eqD_fine hx hy]; rfl
theorem eq_fine {x y : Dat} (hx : fineD x) (hy : fineD y) : gEq (.d x) (.d y) S = .ok (.d (.bl (decide (x = y)))) S := by
  unfold gEq; rw [eqD_fine hx hy]; rfl
theorem fine_ints (l : List Int) : fineD (.lst (l.map .int)) := (fineN_lst (n := 0) fun x hx => by
  obtain ⟨i, _, rfl⟩ := List.mem_map.mp hx
  exact fineN_int i 0).fine (by decide)
theorem ints_inj {l m : List Int} : (Dat.lst (l.map .int) = Dat.lst (m.map .int)) ↔ l = m := by
  constructor
  · intro h
    have h' : l.map Dat.int = m.map Dat.int := by simpa using h
    exact (List.map_inj_right fun x y e => by simpa using e).mp h'
  · rintro rfl; rfl
theorem gcut_ref {b : Bool} {i : Nat} {l : List Int} {lo hi : Option Int} (h : S[i]? = some (some (.lst (nums l)))) : gSli false (.ref i) lo hi S = .ok (.d (.lst ((gcut l lo hi).map .int))) S := by
  unfold gSli
  show (match lstOf S (.ref i) with
    | some l => mkL false (gcut l lo hi) S
    | none => _) = _
  rw [lst_at h]
  dsimp only
  unfold nums
  rw [gcut_map, ← mkF, List.map_map]; rfl
end
theorem NbAt.pre {S T U : Store} {m : NbM} (h : NbAt (T ++ U) m) (hl : ∀ i ∈ m.foot, i < T.length) : NbAt T m := by
  have t : ∀ {i o}, (T ++ U)[i]? = some o → i ∈ m.foot → T[i]? = some o := fun e hm => by rwa [List.getElem?_append_left (hl _ hm)] at e
  exact ⟨t h.ins (.head _), t h.dct (.tail _ (.head _)), t h.lst (.tail _ (.tail _ (.head _))), fun p hp => t (h.cell p hp) (.tail _ (.tail _ (.tail _ (List.mem_map.mpr ⟨p, hp, rfl⟩)))), h.inj⟩
theorem snoc_of {S : Store} {n : Nat} {o : Option Cell} (hl : S.length = n + 1) (h : S[n]? = some o) : ∃ T, T.length = n ∧ S = T ++ [o] := by
  refine ⟨S.take n, by rw [List.length_take]; omega, ?_⟩
  obtain ⟨hb, hv⟩ := List.getElem?_eq_some_iff.mp h
  have : S.drop n = [o] := by rw [List.drop_eq_getElem_cons hb, hv, List.drop_eq_nil_of_le (by omega)]
  conv => lhs; rw [← List.take_append_drop n S, this]
/-- two cells joined: c the first, d the other -/
def NbM.join (m : NbM) (n o : Int) (c d : CellM) : NbM := (m.setc n ⟨c.src ++ d.src, c.count + 1, c.struck, c.rcd⟩).drop o
section
variable {e e1 e2 : Envr} {S S1 S2 : Store} {body suite : SF} {ct : Str → Option Bool} {x : Exn}
theorem z_try (h : body e S = .exc x e1 S1) (hc : ct x.cls = some true) (hs : suite e1 S1 = .nx e2 S2) : sTry ct body suite e S = .nx e2 S2 := by
  unfold sTry; rw [h]; dsimp only; rw [hc]; dsimp only; rw [hs]; rfl
theorem z_tryN (h : body e S = .nx e1 S1) : sTry ct body suite e S = .nx e1 S1 := by unfold sTry; rw [h]
theorem z_aug {i : Nat} {op : Int → Int → Int} {f : EF} {a b : Int} (hi : e[i]? = some (some (.d (.int a)))) (h : f e S = .ok (.d (.int b)) S1) : sAug i op f e S = .nx (e.set i (some (.d (.int (op a b))))) S1 := by
  unfold sAug; rw [hi]; dsimp only; rw [h]; rfl
theorem ne_int {S : Store} {a b : Int} : gNe (.d (.int a)) (.d (.int b)) S = .ok (.d (.bl (!decide (a = b)))) S := rfl
end
/-- the script's cell -/
def cellI (ns : List Int) (i : Nat) : Int := ns.getD i 0
def lawMix (c p m : Int) : Int := (c * 48271 % p) ^ 3 % p % m
theorem scr_at {S : Store} {ns : List Int} {i : Nat} (h : i < ns.length) : gSub (.d (.scr ns)) (.d (.int i)) S = .ok (.d (.int (ns.getD i 0))) S := by
  unfold gSub gSel
  rw [if_neg (by simp [isDct, dctOf])]
  show (match L2.atI ns (i : Int) with
    | some n => okd (.int n) S
    | none => .stuck) = _
  have : L2.atI ns (i : Int) = some (ns.getD i 0) := by
    unfold L2.atI L2.ixN
    rw [if_pos (by omega), if_pos (by omega)]
    simp [h]
  rw [this]; rfl
theorem sub_lst {S : Store} {l : List Dat} {i : Nat} {x : Dat} (h : l[i]? = some x) : gSub (.d (.lst l)) (.d (.int i)) S = .ok (.d x) S := by
  unfold gSub gSel
  rw [if_neg (by simp [isDct, dctOf])]
  have h1 : L2.atI (l.map Val.d) (i : Int) = some (.d x) := by
    rw [atI_map]
    have hl := (List.getElem?_eq_some_iff.mp h).1
    unfold L2.atI L2.ixN
    rw [if_pos (by omega), if_pos (by omega)]
    simp [h]
  show (match L2.atI (l.map Val.d) (i : Int) with
    | some z => Res.ok z S
    | none => .stuck) = _
  rw [h1]
theorem sub_lstN {S : Store} {l : List Dat} {i : Nat} {x : Dat} (hi : 1 ≤ i) (h : l[l.length - i]? = some x) (hl : i ≤ l.length) : gSub (.d (.lst l)) (.d (.int (-(i : Int)))) S = .ok (.d x) S := by
  unfold gSub gSel
  rw [if_neg (by simp [isDct, dctOf])]
  have h1 : L2.atI (l.map Val.d) (-(i : Int)) = some (.d x) := by
    rw [atI_map]
    unfold L2.atI L2.ixN
    rw [if_neg (by omega), if_pos (by omega)]
    have : (-(i : Int) + (l.length : Nat)).toNat = l.length - i := by omega
    simp only [Option.bind_some, this, h, Option.map_some]
  show (match L2.atI (l.map Val.d) (-(i : Int)) with
    | some z => Res.ok z S
    | none => .stuck) = _
  rw [h1]
theorem len_lst {S : Store} {l : List Dat} : gLen (.d (.lst l)) S = .ok (.d (.int (l.length : Nat))) S := by
  show Res.ok (Val.d (.int (((l.map Val.d).length : Nat) : Int))) S = _
  rw [List.length_map]
theorem mod_int {S : Store} {i j : Int} (h : 0 < j) : gMod (.d (.int i)) (.d (.int j)) S = .ok (.d (.int (i % j))) S := by
  show (if 0 < j then okd (.int (i % j)) S else .stuck) = _
  rw [if_pos h]; rfl
theorem mix_ok {e : Envr} {S : Store} {c p m : Int} (hp : 0 < p) (hp2 : p < 2 ^ 60) (hm : 0 < m) {f0 f1 f2 : EF} (h0 : f0 e S = .ok (.d (.int c)) S) (h1 : f1 e S = .ok (.d (.int p)) S) (h2 : f2 e S = .ok (.d (.int m)) S) :
    e2 gMod (e2 gMod (e2 gPow (e2 gMod (e2 (gMul false) f0 (eDat (.int 48271))) f1) (eDat (.int 3))) f1) f2 e S = .ok (.d (.int (lawMix c p m))) S := by
  have b1 := Int.emod_nonneg (c * 48271) (by omega : p ≠ 0)
  have b2 := Int.emod_lt_of_pos (c * 48271) hp
  have g1 : gMul false (.d (.int c)) (.d (.int 48271)) S = .ok (.d (.int (c * 48271))) S := by
    show (if CMul c 48271 then okd (.int (c * 48271)) S else .stuck) = _
    rw [if_pos (.inr ⟨by decide, by decide⟩)]; rfl
  have g2 : gPow (.d (.int (c * 48271 % p))) (.d (.int 3)) S = .ok (.d (.int ((c * 48271 % p) ^ 3))) S := by
    show (if CPow (c * 48271 % p) 3 then okd (.int ((c * 48271 % p) ^ (3 : Int).toNat)) S else .stuck) = _
    rw [if_pos ⟨by decide, by decide, by omega⟩]; rfl
  exact z_e2 (z_e2 (z_e2 (z_e2 (z_e2 h0 rfl g1) h1 (mod_int hp)) rfl g2) h1 (mod_int hp)) h2 (mod_int hm)
theorem in_ints {S : Store} {a : Int} {l : List Int} (n : Bool) : gInA n (.d (.int a)) (.d (.lst (l.map .int))) S = .ok (.d (.bl (if n then !(decide (a ∈ l)) else decide (a ∈ l)))) S := by
  show gSel isDct2 (gDin n) (gIn n) _ _ S = _
  unfold gSel
  rw [if_neg (by show ¬ (dctOf S (.d (.lst _))).isSome = true; simp [dctOf])]
  unfold gIn inD
  show (match (if flat (.d (.int a)) = true ∧ ((l.map Dat.int).map Val.d).all flat = true then some (inF (.d (.int a)) ((l.map Dat.int).map Val.d)) else _) with
    | some b => okd (.bl (if n then !b else b)) S
    | none => .stuck) = _
  rw [if_pos ⟨rfl, by rw [List.map_map, List.all_map]; exact List.all_eq_true.mpr fun _ _ => rfl⟩]
  have : inF (.d (.int a)) ((l.map Dat.int).map Val.d) = decide (a ∈ l) := by
    unfold inF
    rw [List.map_map, List.any_map, Bool.eq_iff_iff, List.any_eq_true, decide_eq_true_eq]
    constructor
    · rintro ⟨y, hy, e⟩
      have e' : (y == a) = true := e
      rw [beq_iff_eq] at e'
      exact e' ▸ hy
    · intro h
      exact ⟨a, h, by show (a == a) = true; simp⟩
  show okd (.bl (if n then !(inF (.d (.int a)) ((l.map Dat.int).map Val.d)) else inF (.d (.int a)) ((l.map Dat.int).map Val.d))) S = _
  rw [this]; rfl
theorem posOf_at {l : List Int} (nd : l.Nodup) {k : Nat} {n : Int} (h : l[k]? = some n) : posOf n l = some k := by
  obtain ⟨j, hj, _, hg⟩ := posOf_mem (List.mem_of_getElem? h)
  rw [hj]
  obtain ⟨h1, e1⟩ := List.getElem?_eq_some_iff.mp hg
  obtain ⟨h2, e2⟩ := List.getElem?_eq_some_iff.mp h
  have := (List.getElem_inj (h₀ := h1) (h₁ := h2) nd).mp (e1.trans e2.symm)
  rw [this]
end Z
set_option Elab.async false
set_option linter.all false
set_option maxRecDepth 100000
set_option maxHeartbeats 4000000
set_option pp.maxSteps 600
set_option pp.deepTerms false
namespace Z
open PySem L2 Evl NdefX LamX
def top (i : Nat) : Stmt := PySem.Challenge.pw_leancells_k14_hands.main.body.getD i (.Pass ⟨0, 0, 0, 0⟩)
abbrev s_is_within : Stmt := top 16
abbrev N_is_within : List Str := ["thing", "low", "high"]
theorem sc_is_within : FnScope N_is_within ["thing", "low", "high"] (defScope s_is_within) := ⟨rfl, rfl, rfl, by decide +kernel, rfl, by decide +kernel, by decide +kernel⟩
abbrev s_is_name : Stmt := top 17
abbrev N_is_name : List Str := ["thing", "sign"]
theorem sc_is_name : FnScope N_is_name ["thing"] (defScope s_is_name) := ⟨rfl, rfl, rfl, by decide +kernel, rfl, by decide +kernel, by decide +kernel⟩
abbrev s_is_sum : Stmt := top 18
abbrev N_is_sum : List Str := ["thing", "deep", "part"]
theorem sc_is_sum : FnScope N_is_sum ["thing", "deep"] (defScope s_is_sum) := ⟨rfl, rfl, rfl, by decide +kernel, rfl, by decide +kernel, by decide +kernel⟩
abbrev s_is_row : Stmt := top 19
abbrev N_is_row : List Str := ["thing"]
theorem sc_is_row : FnScope N_is_row ["thing"] (defScope s_is_row) := ⟨rfl, rfl, rfl, by decide +kernel, rfl, by decide +kernel, by decide +kernel⟩
abbrev s_is_source : Stmt := top 20
abbrev N_is_source : List Str := ["thing", "row"]
theorem sc_is_source : FnScope N_is_source ["thing"] (defScope s_is_source) := ⟨rfl, rfl, rfl, by decide +kernel, rfl, by decide +kernel, by decide +kernel⟩
abbrev s_look : Stmt := top 21
abbrev N_look : List Str := ["source"]
theorem sc_look : FnScope N_look ["source"] (defScope s_look) := ⟨rfl, rfl, rfl, by decide +kernel, rfl, by decide +kernel, by decide +kernel⟩
abbrev s_sets_of : Stmt := top 22
abbrev N_sets_of : List Str := ["source", "row"]
theorem sc_sets_of : FnScope N_sets_of ["source"] (defScope s_sets_of) := ⟨rfl, rfl, rfl, by decide +kernel, rfl, by decide +kernel, by decide +kernel⟩
abbrev s_Cell_init : Stmt := inClass (top 31) 0
abbrev N_Cell_init : List Str := ["self", "source"]
theorem sc_Cell_init : FnScope N_Cell_init ["self", "source"] (defScope s_Cell_init) := ⟨rfl, rfl, rfl, by decide +kernel, rfl, by decide +kernel, by decide +kernel⟩
abbrev s_Notebook_init : Stmt := inClass (top 32) 0
abbrev N_Notebook_init : List Str := ["self"]
theorem sc_Notebook_init : FnScope N_Notebook_init ["self"] (defScope s_Notebook_init) := ⟨rfl, rfl, rfl, by decide +kernel, rfl, by decide +kernel, by decide +kernel⟩
abbrev s_Notebook_look_cell : Stmt := inClass (top 32) 1
abbrev N_Notebook_look_cell : List Str := ["self", "number"]
theorem sc_Notebook_look_cell : FnScope N_Notebook_look_cell ["self", "number"] (defScope s_Notebook_look_cell) := ⟨rfl, rfl, rfl, by decide +kernel, rfl, by decide +kernel, by decide +kernel⟩
abbrev s_Notebook_look_place : Stmt := inClass (top 32) 3
abbrev N_Notebook_look_place : List Str := ["self", "place", "most"]
theorem sc_Notebook_look_place : FnScope N_Notebook_look_place ["self", "place", "most"] (defScope s_Notebook_look_place) := ⟨rfl, rfl, rfl, by decide +kernel, rfl, by decide +kernel, by decide +kernel⟩
abbrev s_Notebook_put : Stmt := inClass (top 32) 4
abbrev N_Notebook_put : List Str := ["self", "place", "source", "number"]
theorem sc_Notebook_put : FnScope N_Notebook_put ["self", "place", "source"] (defScope s_Notebook_put) := ⟨rfl, rfl, rfl, by decide +kernel, rfl, by decide +kernel, by decide +kernel⟩
abbrev s_Notebook_change : Stmt := inClass (top 32) 5
abbrev N_Notebook_change : List Str := ["self", "number", "version", "source", "cell"]
theorem sc_Notebook_change : FnScope N_Notebook_change ["self", "number", "version", "source"] (defScope s_Notebook_change) := ⟨rfl, rfl, rfl, by decide +kernel, rfl, by decide +kernel, by decide +kernel⟩
abbrev s_Notebook_setter : Stmt := inClass (top 32) 11
abbrev N_Notebook_setter : List Str := ["self", "number", "name", "found", "one"]
theorem sc_Notebook_setter : FnScope N_Notebook_setter ["self", "number", "name"] (defScope s_Notebook_setter) := ⟨rfl, rfl, rfl, by decide +kernel, rfl, by decide +kernel, by decide +kernel⟩
abbrev s_Notebook_holds : Stmt := inClass (top 32) 12
abbrev N_Notebook_holds : List Str := ["self", "number", "fresh", "record", "name", "known", "other"]
theorem sc_Notebook_holds : FnScope N_Notebook_holds ["self", "number", "fresh"] (defScope s_Notebook_holds) := ⟨rfl, rfl, rfl, by decide +kernel, rfl, by decide +kernel, by decide +kernel⟩
abbrev s_Notebook_last_told : Stmt := inClass (top 32) 13
abbrev N_Notebook_last_told : List Str := ["self", "number", "name"]
theorem sc_Notebook_last_told : FnScope N_Notebook_last_told ["self", "number", "name"] (defScope s_Notebook_last_told) := ⟨rfl, rfl, rfl, by decide +kernel, rfl, by decide +kernel, by decide +kernel⟩
abbrev s_Notebook_fresh : Stmt := inClass (top 32) 14
abbrev N_Notebook_fresh : List Str := ["self", "found", "number"]
theorem sc_Notebook_fresh : FnScope N_Notebook_fresh ["self"] (defScope s_Notebook_fresh) := ⟨rfl, rfl, rfl, by decide +kernel, rfl, by decide +kernel, by decide +kernel⟩
abbrev s_Notebook_state : Stmt := inClass (top 32) 15
abbrev N_Notebook_state : List Str := ["self", "number"]
theorem sc_Notebook_state : FnScope N_Notebook_state ["self", "number"] (defScope s_Notebook_state) := ⟨rfl, rfl, rfl, by decide +kernel, rfl, by decide +kernel, by decide +kernel⟩
abbrev s_Notebook_source : Stmt := inClass (top 32) 23
abbrev N_Notebook_source : List Str := ["self", "number"]
theorem sc_Notebook_source : FnScope N_Notebook_source ["self", "number"] (defScope s_Notebook_source) := ⟨rfl, rfl, rfl, by decide +kernel, rfl, by decide +kernel, by decide +kernel⟩
abbrev s_Notebook_version : Stmt := inClass (top 32) 24
abbrev N_Notebook_version : List Str := ["self", "number"]
theorem sc_Notebook_version : FnScope N_Notebook_version ["self", "number"] (defScope s_Notebook_version) := ⟨rfl, rfl, rfl, by decide +kernel, rfl, by decide +kernel, by decide +kernel⟩
abbrev s_law_cell : Stmt := top 34
abbrev N_law_cell : List Str := ["_law_script", "_law_k"]
theorem sc_law_cell : FnScope N_law_cell ["_law_script", "_law_k"] (defScope s_law_cell) := ⟨rfl, rfl, rfl, by decide +kernel, rfl, by decide +kernel, by decide +kernel⟩
abbrev s_law_seed : Stmt := top 35
abbrev N_law_seed : List Str := ["_law_seed_here", "_law_k"]
theorem sc_law_seed : FnScope N_law_seed ["_law_seed_here", "_law_k"] (defScope s_law_seed) := ⟨rfl, rfl, rfl, by decide +kernel, rfl, by decide +kernel, by decide +kernel⟩
abbrev s_law_pick : Stmt := top 36
abbrev N_law_pick : List Str := ["_law_seed_here", "_law_many"]
theorem sc_law_pick : FnScope N_law_pick ["_law_seed_here", "_law_many"] (defScope s_law_pick) := ⟨rfl, rfl, rfl, by decide +kernel, rfl, by decide +kernel, by decide +kernel⟩
abbrev s_law_sum : Stmt := top 37
abbrev N_law_sum : List Str := ["_law_seed_here", "_law_deep", "_law_some", "_law_k", "_law_parts", "_law_word"]
theorem sc_law_sum : FnScope N_law_sum ["_law_seed_here", "_law_deep"] (defScope s_law_sum) := ⟨rfl, rfl, rfl, by decide +kernel, rfl, by decide +kernel, by decide +kernel⟩
abbrev s_law_source : Stmt := top 38
abbrev N_law_source : List Str := ["_law_seed_here", "_law_found", "_law_k", "_law_one", "_law_some"]
theorem sc_law_source : FnScope N_law_source ["_law_seed_here"] (defScope s_law_source) := ⟨rfl, rfl, rfl, by decide +kernel, rfl, by decide +kernel, by decide +kernel⟩
abbrev s_law : Stmt := top 39
abbrev N_law : List Str := ["_law_script", "_law_notebook", "_law_many", "_law_k", "_law_sources", "_law_versions", "_law_seen", "_law_seed_here", "_law_hand", "_law_number", "_law_one", "_law_source_here", "_law_caught", "_law_told"]
theorem sc_law : FnScope N_law ["_law_script"] (defScope s_law) := ⟨rfl, rfl, rfl, by decide +kernel, rfl, by decide +kernel, by decide +kernel⟩
def l_BARRED : List Str := ["add", "less", "times", "over", "same", "if", "set", "show"]
def l_WORDS : List Str := ["add", "less", "times", "over", "same"]
structure Calls where
  is_within : VF
  is_name : VF
  is_sum : VF
  is_row : VF
  is_source : VF
  look : VF
  sets_of : VF
  Cell_init : VF
  Notebook_init : VF
  Notebook_look_cell : VF
  Notebook_look_place : VF
  Notebook_put : VF
  Notebook_change : VF
  Notebook_setter : VF
  Notebook_holds : VF
  Notebook_last_told : VF
  Notebook_fresh : VF
  Notebook_state : VF
  Notebook_source : VF
  Notebook_version : VF
  law_cell : VF
  law_seed : VF
  law_pick : VF
  law_sum : VF
  law_source : VF
  law : VF
  mk_Notebook : VF
  mk_Cell : VF
  clo : Nat → VF
def ct_Behind : Str → Option Bool := ctL ["Behind"] ["NoCell", "BadNumber", "BadSource", "Full"]
noncomputable def bd_is_within (c : Calls) : SF :=
  (sRet (eAnd (e1 (gIsi "int") (eVar 0)) (eAnd (eNot (e1 (gIsi "bool") (eVar 0))) (eChain gLe' gLe' (eVar 1) (eVar 0) (eVar 2)))))
noncomputable def f_is_within (c : Calls) : VF := fnT 3 3 (bd_is_within c)
noncomputable def bd_is_name (c : Calls) : SF :=
  (sSeq (sIf (bOr (bNot (bTruth (e1 (gIsi "str") (eVar 0)))) (bOr (bNot (bVal (eChain gLe' gLe' (eDat (.int 1)) (e1 gLen (eVar 0)) (eDat (.int 4))))) (bVal (e2' (gInA false) (eVar 0) (eDat (.tup (l_BARRED.map .str))))))) (sRet (eDat (.bl false))) (fun e S => .nx e S))
    (sRet (eNotT (eComp false (iAny (eVar 0)) (gN 1) (bVal (e2' (gInA true) (eVar 1) (eDat (.str "abcdefghijklmnopqrstuvwxyz")))) (eVar 1) [1]))))
noncomputable def f_is_name (c : Calls) : VF := fnT 1 2 (bd_is_name c)
noncomputable def bd_is_sum (c : Calls) : SF :=
  (sSeq (sIf (bTruth (e1 (gIsi "str") (eVar 0))) (sRet (eCall c.is_name (aCons (eVar 0) aNil))) (fun e S => .nx e S))
    (sSeq (sIf (bNot (bTruth (e1 (gIsi "tuple") (eVar 0)))) (sRet (eCall c.is_within (aCons (eVar 0) (aCons (eDat (.int 0)) (aCons (e2 gSub' (eDat (.int 10000)) (eDat (.int 1))) aNil))))) (fun e S => .nx e S))
    (sSeq (sIf (bOr (bVal (e2 gLt (eVar 1) (eDat (.int 1)))) (bOr (bNot (bTruth (eVar 0))) (bNot (bTruth (e1 (gIsi "str") (e2 gSub (eVar 0) (eDat (.int 0)))))))) (sRet (eDat (.bl false))) (fun e S => .nx e S))
    (sSeq (sIf (bOr (bAnd (bVal (e2' (gInA false) (e2 gSub (eVar 0) (eDat (.int 0))) (eDat (.tup (l_WORDS.map .str))))) (bVal (e2 gEq (e1 gLen (eVar 0)) (eDat (.int 3))))) (bAnd (bVal (e2 gEq (e2 gSub (eVar 0) (eDat (.int 0))) (eDat (.str "if")))) (bVal (e2 gEq (e1 gLen (eVar 0)) (eDat (.int 4)))))) (sRet (eNotT (eComp false (iAny (eSli false (eVar 0) (oSome (eDat (.int 1))) oNone)) (gN 2) (bNot (bTruth (eCall c.is_sum (aCons (eVar 2) (aCons (e2 gSub' (eVar 1) (eDat (.int 1))) aNil))))) (eVar 2) [2]))) (fun e S => .nx e S))
    (sRet (eDat (.bl false)))))))
noncomputable def f_is_sum (c : Calls) : VF := fnT 2 3 (bd_is_sum c)
noncomputable def bd_is_row (c : Calls) : SF :=
  (sSeq (sIf (bOr (bNot (bTruth (e1 (gIsi "tuple") (eVar 0)))) (bOr (bNot (bTruth (eVar 0))) (bNot (bTruth (e1 (gIsi "str") (e2 gSub (eVar 0) (eDat (.int 0)))))))) (sRet (eDat (.bl false))) (fun e S => .nx e S))
    (sSeq (sIf (bVal (e2 gEq (e2 gSub (eVar 0) (eDat (.int 0))) (eDat (.str "show")))) (sRet (eAnd (e2 gEq (e1 gLen (eVar 0)) (eDat (.int 2))) (eCall c.is_sum (aCons (e2 gSub (eVar 0) (eDat (.int 1))) (aCons (eDat (.int 6)) aNil))))) (fun e S => .nx e S))
    (sRet (eAnd (e2 gEq (e2 gSub (eVar 0) (eDat (.int 0))) (eDat (.str "set"))) (eAnd (e2 gEq (e1 gLen (eVar 0)) (eDat (.int 3))) (eAnd (eCall c.is_name (aCons (e2 gSub (eVar 0) (eDat (.int 1))) aNil)) (eCall c.is_sum (aCons (e2 gSub (eVar 0) (eDat (.int 2))) (aCons (eDat (.int 6)) aNil)))))))))
noncomputable def f_is_row (c : Calls) : VF := fnT 1 1 (bd_is_row c)
noncomputable def bd_is_source (c : Calls) : SF :=
  (sSeq (sIf (bOr (bNot (bTruth (e1 (gIsi "tuple") (eVar 0)))) (bVal (e2 gGt (e1 gLen (eVar 0)) (eDat (.int 8))))) (sRet (eDat (.bl false))) (fun e S => .nx e S))
    (sRet (eNotT (eComp false (iAny (eVar 0)) (gN 1) (bNot (bTruth (eCall c.is_row (aCons (eVar 1) aNil)))) (eVar 1) [1]))))
noncomputable def f_is_source (c : Calls) : VF := fnT 1 2 (bd_is_source c)
noncomputable def bd_look (c : Calls) : SF :=
  (sIf (bNot (bTruth (eCall c.is_source (aCons (eVar 0) aNil)))) (sRaise "BadSource") (fun e S => .nx e S))
noncomputable def f_look (c : Calls) : VF := fnT 1 1 (bd_look c)
noncomputable def bd_sets_of (c : Calls) : SF :=
  (sRet (eComp false (iAny (eVar 0)) (gN 1) (bVal (e2 gEq (e2 gSub (eVar 1) (eDat (.int 0))) (eDat (.str "set")))) (e2 gSub (eVar 1) (eDat (.int 1))) [1]))
noncomputable def f_sets_of (c : Calls) : VF := fnT 1 2 (bd_sets_of c)
noncomputable def bd_Cell_init (c : Calls) : SF :=
  (sSeq (sFput ["Cell"] "lines" (eVar 0) (eVar 1))
    (sSeq (sFput ["Cell"] "count" (eVar 0) (eDat (.int 0)))
    (sSeq (sFput ["Cell"] "struck" (eVar 0) (eDat (.bl false)))
    (sFput ["Cell"] "record" (eVar 0) (eDat .non)))))
noncomputable def f_Cell_init (c : Calls) : VF := fnA 2 2 (bd_Cell_init c)
noncomputable def bd_Notebook_init (c : Calls) : SF :=
  (sSeq (sFput ["Notebook"] "cells" (eVar 0) eDct0)
    (sSeq (sFput ["Notebook"] "row" (eVar 0) (eLst aNil))
    (sFput ["Notebook"] "after" (eVar 0) (eDat (.int 0)))))
noncomputable def f_Notebook_init (c : Calls) : VF := fnA 1 1 (bd_Notebook_init c)
noncomputable def bd_Notebook_look_cell (c : Calls) : SF :=
  (sIf (bOr (bNot (bTruth (eCall c.is_within (aCons (eVar 1) (aCons (eDat (.int 0)) (aCons (e1 (gFld ["Notebook"] "after") (eVar 0)) aNil)))))) (bVal (e2' (gInA true) (eVar 1) (e1 (gFld ["Notebook"] "cells") (eVar 0))))) (sRaise "NoCell") (fun e S => .nx e S))
noncomputable def f_Notebook_look_cell (c : Calls) : VF := fnT 2 2 (bd_Notebook_look_cell c)
noncomputable def bd_Notebook_look_place (c : Calls) : SF :=
  (sIf (bNot (bTruth (eCall c.is_within (aCons (eVar 1) (aCons (eDat (.int 0)) (aCons (eVar 2) aNil)))))) (sRaise "BadNumber") (fun e S => .nx e S))
noncomputable def f_Notebook_look_place (c : Calls) : VF := fnT 3 3 (bd_Notebook_look_place c)
noncomputable def bd_Notebook_put (c : Calls) : SF :=
  (sSeq (sDrop (eMeth "Notebook" "look_place" c.Notebook_look_place (eVar 0) (aCons (eVar 1) (aCons (e1 gLen (e1 (gFld ["Notebook"] "row") (eVar 0))) aNil))))
    (sSeq (sDrop (eCall c.look (aCons (eVar 2) aNil)))
    (sSeq (sIf (bVal (e2 gEq (e1 gLen (e1 (gFld ["Notebook"] "row") (eVar 0))) (eDat (.int 30)))) (sRaise "Full") (fun e S => .nx e S))
    (sSeq (sAsg 3 (e1 (gFld ["Notebook"] "after") (eVar 0)))
    (sSeq (sFaug ["Notebook"] "after" (eVar 0) (eDat (.int 1)))
    (sSeq (sDput (e1 (gFld ["Notebook"] "cells") (eVar 0)) (eVar 3) (eCall c.mk_Cell (aCons (eVar 2) aNil)))
    (sSeq (sDrop (eMt gInsert (e1 (gFld ["Notebook"] "row") (eVar 0)) (aCons (eVar 1) (aCons (eVar 3) aNil))))
    (sRet (eVar 3)))))))))
noncomputable def f_Notebook_put (c : Calls) : VF := fnA 3 4 (bd_Notebook_put c)
noncomputable def bd_Notebook_change (c : Calls) : SF :=
  (sSeq (sDrop (eMeth "Notebook" "look_cell" c.Notebook_look_cell (eVar 0) (aCons (eVar 1) aNil)))
    (sSeq (sIf (bNot (bTruth (eCall c.is_within (aCons (eVar 2) (aCons (eDat (.int 0)) (aCons (eDat (.int 1000000)) aNil)))))) (sRaise "BadNumber") (fun e S => .nx e S))
    (sSeq (sDrop (eCall c.look (aCons (eVar 3) aNil)))
    (sSeq (sAsg 4 (e2 gSub (e1 (gFld ["Notebook"] "cells") (eVar 0)) (eVar 1)))
    (sSeq (sIf (bVal (e2 gNe (eVar 2) (e1 (gFld ["Cell"] "count") (eVar 4)))) (sRaise "Behind") (fun e S => .nx e S))
    (sSeq (sFput ["Cell"] "lines" (eVar 4) (eVar 3))
    (sSeq (sFaug ["Cell"] "count" (eVar 4) (eDat (.int 1)))
    (sRet (e1 (gFld ["Cell"] "count") (eVar 4))))))))))
noncomputable def f_Notebook_change (c : Calls) : VF := fnT 4 5 (bd_Notebook_change c)
noncomputable def bd_Notebook_setter (c : Calls) : SF :=
  (sSeq (sAsg 3 (eDat .non))
    (sSeq (sFor (iAny (eSli false (e1 (gFld ["Notebook"] "row") (eVar 0)) oNone (oSome (eMt gIndex (e1 (gFld ["Notebook"] "row") (eVar 0)) (aCons (eVar 1) aNil))))) (gN 4)
    (sIf (bAnd (bNot (bTruth (e1 (gFld ["Cell"] "struck") (e2 gSub (e1 (gFld ["Notebook"] "cells") (eVar 0)) (eVar 4))))) (bVal (e2' (gInA false) (eVar 2) (eCall c.sets_of (aCons (e1 (gFld ["Cell"] "lines") (e2 gSub (e1 (gFld ["Notebook"] "cells") (eVar 0)) (eVar 4))) aNil))))) (sAsg 3 (eVar 4)) (fun e S => .nx e S)))
    (sRet (eVar 3))))
noncomputable def f_Notebook_setter (c : Calls) : VF := fnT 3 5 (bd_Notebook_setter c)
noncomputable def bd_Notebook_holds (c : Calls) : SF :=
  (sSeq (sAsg 3 (e1 (gFld ["Cell"] "record") (e2 gSub (e1 (gFld ["Notebook"] "cells") (eVar 0)) (eVar 1))))
    (sSeq (sIf (bOr (bVal (e2 (gIs false) (eVar 3) (eDat .non))) (bVal (e2 gNe (e1 (gFld ["Cell"] "lines") (eVar 3)) (e1 (gFld ["Cell"] "lines") (e2 gSub (e1 (gFld ["Notebook"] "cells") (eVar 0)) (eVar 1)))))) (sRet (eDat (.bl false))) (fun e S => .nx e S))
    (sSeq (sFor (iAny (e1 (gFld [] "asked") (eVar 3))) (gT [4, 5])
    (sSeq (sAsg 6 (eMeth "Notebook" "setter" c.Notebook_setter (eVar 0) (aCons (eVar 1) (aCons (eVar 4) aNil))))
    (sSeq (sIf (bAnd (bVal (e2 (gIs true) (eVar 6) (eDat .non))) (bVal (e2' (gInA true) (eVar 6) (eVar 2)))) (sRet (eDat (.bl false))) (fun e S => .nx e S))
    (sIf (bVal (e2 gNe (eVar 5) (eMeth "Notebook" "last_told" c.Notebook_last_told (eVar 0) (aCons (eVar 6) (aCons (eVar 4) aNil))))) (sRet (eDat (.bl false))) (fun e S => .nx e S)))))
    (sRet (eDat (.bl true))))))
noncomputable def f_Notebook_holds (c : Calls) : VF := fnT 3 7 (bd_Notebook_holds c)
noncomputable def bd_Notebook_last_told (c : Calls) : SF :=
  (sSeq (sIf (bVal (e2 (gIs false) (eVar 1) (eDat .non))) (sRet (eDat .non)) (fun e S => .nx e S))
    (sRet (eGet2 (e1 (gFld [] "sets") (e1 (gFld ["Cell"] "record") (e2 gSub (e1 (gFld ["Notebook"] "cells") (eVar 0)) (eVar 1)))) (eVar 2) (eDat .non))))
noncomputable def f_Notebook_last_told (c : Calls) : VF := fnT 3 3 (bd_Notebook_last_told c)
noncomputable def bd_Notebook_fresh (c : Calls) : SF :=
  (sSeq (sAsg 1 (eLst aNil))
    (sSeq (sFor (iAny (e1 (gFld ["Notebook"] "row") (eVar 0))) (gN 2)
    (sIf (bAnd (bNot (bTruth (e1 (gFld ["Cell"] "struck") (e2 gSub (e1 (gFld ["Notebook"] "cells") (eVar 0)) (eVar 2))))) (bTruth (eMeth "Notebook" "holds" c.Notebook_holds (eVar 0) (aCons (eVar 2) (aCons (eVar 1) aNil))))) (sDrop (eMt gAppend (eVar 1) (aCons (eVar 2) aNil))) (fun e S => .nx e S)))
    (sRet (eVar 1))))
noncomputable def f_Notebook_fresh (c : Calls) : VF := fnT 1 3 (bd_Notebook_fresh c)
noncomputable def bd_Notebook_state (c : Calls) : SF :=
  (sSeq (sDrop (eMeth "Notebook" "look_cell" c.Notebook_look_cell (eVar 0) (aCons (eVar 1) aNil)))
    (sSeq (sIf (bTruth (e1 (gFld ["Cell"] "struck") (e2 gSub (e1 (gFld ["Notebook"] "cells") (eVar 0)) (eVar 1)))) (sRet (eDat (.str "struck"))) (fun e S => .nx e S))
    (sSeq (sIf (bVal (e2 (gIs false) (e1 (gFld ["Cell"] "record") (e2 gSub (e1 (gFld ["Notebook"] "cells") (eVar 0)) (eVar 1))) (eDat .non))) (sRet (eDat (.str "new"))) (fun e S => .nx e S))
    (sRet (eIf (bVal (e2' (gInA false) (eVar 1) (eMeth "Notebook" "fresh" c.Notebook_fresh (eVar 0) aNil))) (eDat (.str "fresh")) (eDat (.str "stale")))))))
noncomputable def f_Notebook_state (c : Calls) : VF := fnT 2 2 (bd_Notebook_state c)
noncomputable def bd_Notebook_source (c : Calls) : SF :=
  (sSeq (sDrop (eMeth "Notebook" "look_cell" c.Notebook_look_cell (eVar 0) (aCons (eVar 1) aNil)))
    (sRet (e1 (gFld ["Cell"] "lines") (e2 gSub (e1 (gFld ["Notebook"] "cells") (eVar 0)) (eVar 1)))))
noncomputable def f_Notebook_source (c : Calls) : VF := fnT 2 2 (bd_Notebook_source c)
noncomputable def bd_Notebook_version (c : Calls) : SF :=
  (sSeq (sDrop (eMeth "Notebook" "look_cell" c.Notebook_look_cell (eVar 0) (aCons (eVar 1) aNil)))
    (sRet (e1 (gFld ["Cell"] "count") (e2 gSub (e1 (gFld ["Notebook"] "cells") (eVar 0)) (eVar 1)))))
noncomputable def f_Notebook_version (c : Calls) : VF := fnT 2 2 (bd_Notebook_version c)
noncomputable def bd_law_cell (c : Calls) : SF :=
  (sSeq (sIf (bVal (e2 gLt (eVar 1) (e1 gLen (eVar 0)))) (sRet (e2 gSub (eVar 0) (eVar 1))) (fun e S => .nx e S))
    (sRet (eDat (.int 0))))
noncomputable def f_law_cell (c : Calls) : VF := fnT 2 2 (bd_law_cell c)
noncomputable def bd_law_seed (c : Calls) : SF :=
  (sRet (e2 gMod (e2 gPow (e2 gMod (e2 (gAdd false) (e2 (gAdd false) (e2 (gMul false) (eVar 0) (eDat (.int 1103515245))) (e2 (gMul false) (eDat (.int 7919)) (eVar 1))) (eDat (.int 12345))) (eDat (.int 2147483647))) (eDat (.int 5))) (eDat (.int 2147483647))))
noncomputable def f_law_seed (c : Calls) : VF := fnT 2 2 (bd_law_seed c)
noncomputable def bd_law_pick (c : Calls) : SF :=
  (sRet (e2 gMod (e2 gDiv (eVar 0) (eDat (.int 97))) (eVar 1)))
noncomputable def f_law_pick (c : Calls) : VF := fnT 2 2 (bd_law_pick c)
noncomputable def bd_law_sum (c : Calls) : SF :=
  (sSeq (sIf (bOr (bVal (e2 gLt (eVar 1) (eDat (.int 1)))) (bVal (e2 gEq (eCall c.law_pick (aCons (eVar 0) (aCons (eDat (.int 3)) aNil))) (eDat (.int 0))))) (sSeq (sAsg 2 (eFrz (eLst (aCons (e2 gMod (e2 gDiv (eVar 0) (eDat (.int 7))) (eDat (.int 10))) (aCons (e2 gMod (e2 gDiv (eVar 0) (eDat (.int 7))) (eDat (.int 4))) (aCons (e2 gMod (e2 gDiv (eVar 0) (eDat (.int 7))) (eDat (.int 10000))) (aCons (eDat (.int 0)) aNil)))))))
    (sRet (e2 gSub (e2 (gAdd false) (eVar 2) (eFrz (eLst (aCons (eDat (.str "a")) (aCons (eDat (.str "b")) (aCons (eDat (.str "c")) (aCons (eDat (.str "wxyz")) (aCons (eDat (.str "a")) (aCons (eDat (.str "b")) aNil))))))))) (e2 gMod (e2 gDiv (eVar 0) (eDat (.int 5))) (eDat (.int 10)))))) (fun e S => .nx e S))
    (sSeq (sAsg 4 (eComp false (iRange1 (eDat (.int 3))) (gN 3) tYesF (eCall c.law_sum (aCons (eCall c.law_seed (aCons (eVar 0) (aCons (eVar 3) aNil))) (aCons (e2 gSub' (eVar 1) (eDat (.int 1))) aNil))) [3]))
    (sSeq (sAsg 5 (e2 gSub (eFrz (eLst (aCons (eDat (.str "add")) (aCons (eDat (.str "less")) (aCons (eDat (.str "times")) (aCons (eDat (.str "over")) (aCons (eDat (.str "same")) (aCons (eDat (.str "if")) (aCons (eDat (.str "add")) aNil))))))))) (e2 gMod (e2 gDiv (eVar 0) (eDat (.int 11))) (eDat (.int 7)))))
    (sRet (eIf (bVal (e2 gEq (eVar 5) (eDat (.str "if")))) (eTup (aCons (eDat (.str "if")) (aCons (e2 gSub (eVar 4) (eDat (.int 0))) (aCons (e2 gSub (eVar 4) (eDat (.int 1))) (aCons (e2 gSub (eVar 4) (eDat (.int 2))) aNil))))) (eTup (aCons (eVar 5) (aCons (e2 gSub (eVar 4) (eDat (.int 0))) (aCons (e2 gSub (eVar 4) (eDat (.int 1))) aNil)))))))))
noncomputable def f_law_sum (c : Calls) : VF := fnT 2 6 (bd_law_sum c)
noncomputable def bd_law_source (c : Calls) : SF :=
  (sSeq (sAsg 1 (eLst aNil))
    (sSeq (sFor (iRange1 (e2 gSub (eFrz (eLst (aCons (e2 gMod (e2 gDiv (eVar 0) (eDat (.int 7))) (eDat (.int 4))) (aCons (e2 (gAdd false) (eDat (.int 1)) (e2 gMod (e2 gDiv (eVar 0) (eDat (.int 7))) (eDat (.int 3)))) (aCons (e2 gMod (e2 gDiv (eVar 0) (eDat (.int 7))) (eDat (.int 9))) aNil))))) (e2 gMod (e2 gDiv (eVar 0) (eDat (.int 11))) (eDat (.int 3))))) (gN 2)
    (sSeq (sAsg 3 (eCall c.law_seed (aCons (eVar 0) (aCons (e2 (gAdd false) (eDat (.int 20)) (eVar 2)) aNil))))
    (sSeq (sAsg 4 (eCall c.law_sum (aCons (eCall c.law_seed (aCons (eVar 3) (aCons (eDat (.int 1)) aNil))) (aCons (e2 gSub (eFrz (eLst (aCons (e2 gMod (e2 gDiv (eVar 3) (eDat (.int 7))) (eDat (.int 3))) (aCons (eDat (.int 6)) aNil)))) (eB gToInt (aCons (e2 gEq (e2 gMod (e2 gDiv (eVar 3) (eDat (.int 13))) (eDat (.int 9))) (eDat (.int 0))) aNil))) aNil))))
    (sIf (bVal (e2 gGt (eCall c.law_pick (aCons (eVar 3) (aCons (eDat (.int 3)) aNil))) (eDat (.int 0)))) (sDrop (eMt gAppend (eVar 1) (aCons (eTup (aCons (eDat (.str "set")) (aCons (e2 gSub (eFrz (eLst (aCons (eDat (.str "a")) (aCons (eDat (.str "b")) (aCons (eDat (.str "c")) (aCons (eDat (.str "wxyz")) aNil)))))) (e2 gMod (e2 gDiv (eVar 3) (eDat (.int 11))) (eDat (.int 4)))) (aCons (eVar 4) aNil)))) aNil))) (sDrop (eMt gAppend (eVar 1) (aCons (eTup (aCons (eDat (.str "show")) (aCons (eVar 4) aNil))) aNil)))))))
    (sRet (eB gTuple (aCons (eVar 1) aNil)))))
noncomputable def f_law_source (c : Calls) : VF := fnT 1 5 (bd_law_source c)
noncomputable def bd_law (c : Calls) : SF :=
  (sSeq (sAsg 1 (eCall c.mk_Notebook aNil))
    (sSeq (sAsg 2 (e2 (gAdd false) (eDat (.int 1)) (e2 gMod (eCall c.law_cell (aCons (eVar 0) (aCons (eDat (.int 0)) aNil))) (eDat (.int 6)))))
    (sSeq (sAsg 4 (eComp true (iRange1 (eVar 2)) (gN 3) tYesF (eCall c.law_source (aCons (eCall c.law_seed (aCons (eCall c.law_cell (aCons (eVar 0) (aCons (eDat (.int 1)) aNil))) (aCons (eVar 3) aNil))) aNil)) [3]))
    (sSeq (sFor (iRange1 (eVar 2)) (gN 3)
    (sDrop (eMeth "Notebook" "put" c.Notebook_put (eVar 1) (aCons (eVar 3) (aCons (e2 gSub (eVar 4) (eVar 3)) aNil)))))
    (sSeq (sAsg 5 (e2 (gMul true) (eFrz (eLst (aCons (eDat (.int 0)) aNil))) (eVar 2)))
    (sSeq (sAsg 6 (eLst (aCons (e2 (gMul true) (eFrz (eLst (aCons (eDat (.int 0)) aNil))) (eVar 2)) (aCons (e2 (gMul true) (eFrz (eLst (aCons (eDat (.int 0)) aNil))) (eVar 2)) aNil))))
    (sSeq (sFor (iRange1 (e2 gMod (eCall c.law_cell (aCons (eVar 0) (aCons (eDat (.int 2)) aNil))) (eDat (.int 40)))) (gN 3)
    (sSeq (sAsg 7 (eCall c.law_seed (aCons (e2 (gAdd false) (eCall c.law_cell (aCons (eVar 0) (aCons (e2 (gAdd false) (eDat (.int 3)) (e2 gMod (eVar 3) (eDat (.int 5)))) aNil))) (e2 (gMul false) (eDat (.int 37)) (eVar 3))) (aCons (eVar 3) aNil))))
    (sSeq (sAsg 8 (e2 gMod (e2 gDiv (eVar 7) (eDat (.int 7))) (eDat (.int 2))))
    (sSeq (sAsg 9 (e2 gMod (e2 gDiv (eVar 7) (eDat (.int 11))) (eVar 2)))
    (sSeq (sIf (bVal (e2 gEq (eCall c.law_pick (aCons (eVar 7) (aCons (eDat (.int 3)) aNil))) (eDat (.int 0)))) (sLput (eVar 6) (eVar 8) (eComp true (iRange1 (eVar 2)) (gN 10) tYesF (eMeth "Notebook" "version" c.Notebook_version (eVar 1) (aCons (eVar 10) aNil)) [10])) (sSeq (sAsg 11 (eCall c.law_source (aCons (eCall c.law_seed (aCons (eVar 7) (aCons (eDat (.int 1)) aNil))) aNil)))
    (sSeq (sAsg 12 (eDat (.bl false)))
    (sSeq (sAsg 13 (eDat .non))
    (sSeq (sTry ct_Behind (sAsg 13 (eMeth "Notebook" "change" c.Notebook_change (eVar 1) (aCons (eVar 9) (aCons (e2 gSub (e2 gSub (eVar 6) (eVar 8)) (eVar 9)) (aCons (eVar 11) aNil)))))
    (sAsg 12 (eDat (.bl true))))
    (sSeq (sIf (bVal (e2 gNe (eVar 12) (e2 gNe (e2 gSub (e2 gSub (eVar 6) (eVar 8)) (eVar 9)) (e2 gSub (eVar 5) (eVar 9))))) (sRet (eDat (.bl false))) (fun e S => .nx e S))
    (sIf (bNot (bTruth (eVar 12))) (sSeq (sLaug (eVar 5) (eVar 9) (eDat (.int 1)))
    (sSeq (sLput (eVar 4) (eVar 9) (eVar 11))
    (sSeq (sLput (e2 gSub (eVar 6) (eVar 8)) (eVar 9) (eVar 13))
    (sIf (bVal (e2 gNe (eVar 13) (e2 gSub (eVar 5) (eVar 9)))) (sRet (eDat (.bl false))) (fun e S => .nx e S))))) (fun e S => .nx e S))))))))
    (sSeq (sIf (bVal (e2 gNe (eComp false (iRange1 (eVar 2)) (gN 10) tYesF (eMeth "Notebook" "version" c.Notebook_version (eVar 1) (aCons (eVar 10) aNil)) [10]) (eVar 5))) (sRet (eDat (.bl false))) (fun e S => .nx e S))
    (sIf (bVal (e2 gNe (eComp false (iRange1 (eVar 2)) (gN 10) tYesF (eMeth "Notebook" "source" c.Notebook_source (eVar 1) (aCons (eVar 10) aNil)) [10]) (eVar 4))) (sRet (eDat (.bl false))) (fun e S => .nx e S))))))))
    (sRet (eAnd (e2 gEq (eMeth "Notebook" "fresh" c.Notebook_fresh (eVar 1) aNil) (eFrz (eLst aNil))) (e2 gEq (eComp false (iRange1 (eVar 2)) (gN 10) tYesF (eMeth "Notebook" "state" c.Notebook_state (eVar 1) (aCons (eVar 10) aNil)) [10]) (e2 (gMul false) (eFrz (eLst (aCons (eDat (.str "new")) aNil))) (eVar 2))))))))))))
noncomputable def f_law (c : Calls) : VF := fnA 1 14 (bd_law c)
noncomputable def F : Nat → Calls
  | 0 => { is_within := fun _ _ => .stuck, is_name := fun _ _ => .stuck, is_sum := fun _ _ => .stuck, is_row := fun _ _ => .stuck, is_source := fun _ _ => .stuck, look := fun _ _ => .stuck, sets_of := fun _ _ => .stuck, Cell_init := fun _ _ => .stuck, Notebook_init := fun _ _ => .stuck, Notebook_look_cell := fun _ _ => .stuck, Notebook_look_place := fun _ _ => .stuck, Notebook_put := fun _ _ => .stuck, Notebook_change := fun _ _ => .stuck, Notebook_setter := fun _ _ => .stuck, Notebook_holds := fun _ _ => .stuck, Notebook_last_told := fun _ _ => .stuck, Notebook_fresh := fun _ _ => .stuck, Notebook_state := fun _ _ => .stuck, Notebook_source := fun _ _ => .stuck, Notebook_version := fun _ _ => .stuck, law_cell := fun _ _ => .stuck, law_seed := fun _ _ => .stuck, law_pick := fun _ _ => .stuck, law_sum := fun _ _ => .stuck, law_source := fun _ _ => .stuck, law := fun _ _ => .stuck, mk_Notebook := fun _ _ => .stuck, mk_Cell := fun _ _ => .stuck, clo := fun _ _ _ => .stuck }
  | n + 1 => { is_within := f_is_within (F n), is_name := f_is_name (F n), is_sum := f_is_sum (F n), is_row := f_is_row (F n), is_source := f_is_source (F n), look := f_look (F n), sets_of := f_sets_of (F n), Cell_init := f_Cell_init (F n), Notebook_init := f_Notebook_init (F n), Notebook_look_cell := f_Notebook_look_cell (F n), Notebook_look_place := f_Notebook_look_place (F n), Notebook_put := f_Notebook_put (F n), Notebook_change := f_Notebook_change (F n), Notebook_setter := f_Notebook_setter (F n), Notebook_holds := f_Notebook_holds (F n), Notebook_last_told := f_Notebook_last_told (F n), Notebook_fresh := f_Notebook_fresh (F n), Notebook_state := f_Notebook_state (F n), Notebook_source := f_Notebook_source (F n), Notebook_version := f_Notebook_version (F n), law_cell := f_law_cell (F n), law_seed := f_law_seed (F n), law_pick := f_law_pick (F n), law_sum := f_law_sum (F n), law_source := f_law_source (F n), law := f_law (F n), mk_Notebook := mkVF "Notebook" (F n).Notebook_init, mk_Cell := mkVF "Cell" (F n).Cell_init, clo := fun i => match i with
    | _ => fun _ _ => .stuck }
theorem F_is_within (n : Nat) : (F (n + 1)).is_within = f_is_within (F n) := rfl
theorem F_is_name (n : Nat) : (F (n + 1)).is_name = f_is_name (F n) := rfl
theorem F_is_sum (n : Nat) : (F (n + 1)).is_sum = f_is_sum (F n) := rfl
theorem F_is_row (n : Nat) : (F (n + 1)).is_row = f_is_row (F n) := rfl
theorem F_is_source (n : Nat) : (F (n + 1)).is_source = f_is_source (F n) := rfl
theorem F_look (n : Nat) : (F (n + 1)).look = f_look (F n) := rfl
theorem F_sets_of (n : Nat) : (F (n + 1)).sets_of = f_sets_of (F n) := rfl
theorem F_Cell_init (n : Nat) : (F (n + 1)).Cell_init = f_Cell_init (F n) := rfl
theorem F_Notebook_init (n : Nat) : (F (n + 1)).Notebook_init = f_Notebook_init (F n) := rfl
theorem F_Notebook_look_cell (n : Nat) : (F (n + 1)).Notebook_look_cell = f_Notebook_look_cell (F n) := rfl
theorem F_Notebook_look_place (n : Nat) : (F (n + 1)).Notebook_look_place = f_Notebook_look_place (F n) := rfl
theorem F_Notebook_put (n : Nat) : (F (n + 1)).Notebook_put = f_Notebook_put (F n) := rfl
theorem F_Notebook_change (n : Nat) : (F (n + 1)).Notebook_change = f_Notebook_change (F n) := rfl
theorem F_Notebook_setter (n : Nat) : (F (n + 1)).Notebook_setter = f_Notebook_setter (F n) := rfl
theorem F_Notebook_holds (n : Nat) : (F (n + 1)).Notebook_holds = f_Notebook_holds (F n) := rfl
theorem F_Notebook_last_told (n : Nat) : (F (n + 1)).Notebook_last_told = f_Notebook_last_told (F n) := rfl
theorem F_Notebook_fresh (n : Nat) : (F (n + 1)).Notebook_fresh = f_Notebook_fresh (F n) := rfl
theorem F_Notebook_state (n : Nat) : (F (n + 1)).Notebook_state = f_Notebook_state (F n) := rfl
theorem F_Notebook_source (n : Nat) : (F (n + 1)).Notebook_source = f_Notebook_source (F n) := rfl
theorem F_Notebook_version (n : Nat) : (F (n + 1)).Notebook_version = f_Notebook_version (F n) := rfl
theorem F_law_cell (n : Nat) : (F (n + 1)).law_cell = f_law_cell (F n) := rfl
theorem F_law_seed (n : Nat) : (F (n + 1)).law_seed = f_law_seed (F n) := rfl
theorem F_law_pick (n : Nat) : (F (n + 1)).law_pick = f_law_pick (F n) := rfl
theorem F_law_sum (n : Nat) : (F (n + 1)).law_sum = f_law_sum (F n) := rfl
theorem F_law_source (n : Nat) : (F (n + 1)).law_source = f_law_source (F n) := rfl
theorem F_law (n : Nat) : (F (n + 1)).law = f_law (F n) := rfl
theorem F_mk_Notebook (n : Nat) : (F (n + 1)).mk_Notebook = mkVF "Notebook" (F n).Notebook_init := rfl
theorem F_mk_Cell (n : Nat) : (F (n + 1)).mk_Cell = mkVF "Cell" (F n).Cell_init := rfl
def cloZ : Nat → Option CloSt
  | _ => none
def tabD : List He.Defn := []
def tabsZ (K : PySem.W.Frag) : List NTab := []
abbrev G (K : PySem.W.Frag) : Gm := ⟨K, He.ga K, cloZ, tabsZ K⟩
structure Txt (K : PySem.W.Frag) (mg : Str → Option Value) : Prop where
  d_is_within : DefP K mg "is_within" s_is_within ["thing", "low", "high"]
  d_is_name : DefP K mg "is_name" s_is_name ["thing"]
  d_is_sum : DefP K mg "is_sum" s_is_sum ["thing", "deep"]
  d_is_row : DefP K mg "is_row" s_is_row ["thing"]
  d_is_source : DefP K mg "is_source" s_is_source ["thing"]
  d_look : DefP K mg "look" s_look ["source"]
  d_sets_of : DefP K mg "sets_of" s_sets_of ["source"]
  i_Cell : IniP K mg "Cell" "Cell.__init__" s_Cell_init ["self", "source"]
  i_Notebook : IniP K mg "Notebook" "Notebook.__init__" s_Notebook_init ["self"]
  m_Notebook_look_cell : MetP K "Notebook" "look_cell" "Notebook.look_cell" s_Notebook_look_cell ["self", "number"]
  m_Notebook_look_place : MetP K "Notebook" "look_place" "Notebook.look_place" s_Notebook_look_place ["self", "place", "most"]
  m_Notebook_put : MetP K "Notebook" "put" "Notebook.put" s_Notebook_put ["self", "place", "source"]
  m_Notebook_change : MetP K "Notebook" "change" "Notebook.change" s_Notebook_change ["self", "number", "version", "source"]
  m_Notebook_setter : MetP K "Notebook" "setter" "Notebook.setter" s_Notebook_setter ["self", "number", "name"]
  m_Notebook_holds : MetP K "Notebook" "holds" "Notebook.holds" s_Notebook_holds ["self", "number", "fresh"]
  m_Notebook_last_told : MetP K "Notebook" "last_told" "Notebook.last_told" s_Notebook_last_told ["self", "number", "name"]
  m_Notebook_fresh : MetP K "Notebook" "fresh" "Notebook.fresh" s_Notebook_fresh ["self"]
  m_Notebook_state : MetP K "Notebook" "state" "Notebook.state" s_Notebook_state ["self", "number"]
  m_Notebook_source : MetP K "Notebook" "source" "Notebook.source" s_Notebook_source ["self", "number"]
  m_Notebook_version : MetP K "Notebook" "version" "Notebook.version" s_Notebook_version ["self", "number"]
  d_law_cell : DefP K mg "_law_cell" s_law_cell ["_law_script", "_law_k"]
  d_law_seed : DefP K mg "_law_seed" s_law_seed ["_law_seed_here", "_law_k"]
  d_law_pick : DefP K mg "_law_pick" s_law_pick ["_law_seed_here", "_law_many"]
  d_law_sum : DefP K mg "_law_sum" s_law_sum ["_law_seed_here", "_law_deep"]
  d_law_source : DefP K mg "_law_source" s_law_source ["_law_seed_here"]
  d_law : DefP K mg "law" s_law ["_law_script"]
  b_bool : mg "bool" = none
  b_int : mg "int" = none
  b_isinstance : mg "isinstance" = none
  b_len : mg "len" = none
  b_range : mg "range" = none
  b_str : mg "str" = none
  b_tuple : mg "tuple" = none
  f_after : FldP K "after" ["Notebook"]
  f_asked : FldP K "asked" []
  f_cells : FldP K "cells" ["Notebook"]
  f_count : FldP K "count" ["Cell"]
  f_lines : FldP K "lines" ["Cell"]
  f_record : FldP K "record" ["Cell"]
  f_row : FldP K "row" ["Notebook"]
  f_sets : FldP K "sets" []
  f_struck : FldP K "struck" ["Cell"]
  k_BARRED : StrsP K mg "BARRED" l_BARRED
  k_MOST_CELLS : IntP mg "MOST_CELLS" 30
  k_MOST_DEEP : IntP mg "MOST_DEEP" 6
  k_MOST_ROWS : IntP mg "MOST_ROWS" 8
  k_ROUND : IntP mg "ROUND" 10000
  k_SMALL : StrP mg "SMALL" "abcdefghijklmnopqrstuvwxyz"
  k_WORDS : StrsP K mg "WORDS" l_WORDS
  x_BadNumber : ExcP K mg "BadNumber"
  x_BadSource : ExcP K mg "BadSource"
  x_Behind : ExcP K mg "Behind"
  x_Full : ExcP K mg "Full"
  x_NoCell : ExcP K mg "NoCell"
  ct_Behind : ∀ k b, ct_Behind k = some b → PySem.W.exmOne K (.ref (He.ga K k)) (.ref (He.ga K "Behind")) = some b
structure FnDs (P : Program) (wd : World) (K : PySem.W.Frag) (mg : Str → Option Value) (base : Heap) (n : Nat) (c : Calls) : Prop where
  is_within : FnD P wd K mg base n (fa_ K "is_within") (fdOf K (fa_ K "is_within")) ["thing", "low", "high"] (spM (G K) c.is_within)
  is_name : FnD P wd K mg base n (fa_ K "is_name") (fdOf K (fa_ K "is_name")) ["thing"] (spM (G K) c.is_name)
  is_sum : FnD P wd K mg base n (fa_ K "is_sum") (fdOf K (fa_ K "is_sum")) ["thing", "deep"] (spM (G K) c.is_sum)
  is_row : FnD P wd K mg base n (fa_ K "is_row") (fdOf K (fa_ K "is_row")) ["thing"] (spM (G K) c.is_row)
  is_source : FnD P wd K mg base n (fa_ K "is_source") (fdOf K (fa_ K "is_source")) ["thing"] (spM (G K) c.is_source)
  look : FnD P wd K mg base n (fa_ K "look") (fdOf K (fa_ K "look")) ["source"] (spM (G K) c.look)
  sets_of : FnD P wd K mg base n (fa_ K "sets_of") (fdOf K (fa_ K "sets_of")) ["source"] (spM (G K) c.sets_of)
  Cell_init : FnD P wd K mg base n (mt_ K "Cell" "__init__") (fdOf K (mt_ K "Cell" "__init__")) ["self", "source"] (spM (G K) c.Cell_init)
  Notebook_init : FnD P wd K mg base n (mt_ K "Notebook" "__init__") (fdOf K (mt_ K "Notebook" "__init__")) ["self"] (spM (G K) c.Notebook_init)
  Notebook_look_cell : FnD P wd K mg base n (mt_ K "Notebook" "look_cell") (fdOf K (mt_ K "Notebook" "look_cell")) ["self", "number"] (spM (G K) c.Notebook_look_cell)
  Notebook_look_place : FnD P wd K mg base n (mt_ K "Notebook" "look_place") (fdOf K (mt_ K "Notebook" "look_place")) ["self", "place", "most"] (spM (G K) c.Notebook_look_place)
  Notebook_put : FnD P wd K mg base n (mt_ K "Notebook" "put") (fdOf K (mt_ K "Notebook" "put")) ["self", "place", "source"] (spM (G K) c.Notebook_put)
  Notebook_change : FnD P wd K mg base n (mt_ K "Notebook" "change") (fdOf K (mt_ K "Notebook" "change")) ["self", "number", "version", "source"] (spM (G K) c.Notebook_change)
  Notebook_setter : FnD P wd K mg base n (mt_ K "Notebook" "setter") (fdOf K (mt_ K "Notebook" "setter")) ["self", "number", "name"] (spM (G K) c.Notebook_setter)
  Notebook_holds : FnD P wd K mg base n (mt_ K "Notebook" "holds") (fdOf K (mt_ K "Notebook" "holds")) ["self", "number", "fresh"] (spM (G K) c.Notebook_holds)
  Notebook_last_told : FnD P wd K mg base n (mt_ K "Notebook" "last_told") (fdOf K (mt_ K "Notebook" "last_told")) ["self", "number", "name"] (spM (G K) c.Notebook_last_told)
  Notebook_fresh : FnD P wd K mg base n (mt_ K "Notebook" "fresh") (fdOf K (mt_ K "Notebook" "fresh")) ["self"] (spM (G K) c.Notebook_fresh)
  Notebook_state : FnD P wd K mg base n (mt_ K "Notebook" "state") (fdOf K (mt_ K "Notebook" "state")) ["self", "number"] (spM (G K) c.Notebook_state)
  Notebook_source : FnD P wd K mg base n (mt_ K "Notebook" "source") (fdOf K (mt_ K "Notebook" "source")) ["self", "number"] (spM (G K) c.Notebook_source)
  Notebook_version : FnD P wd K mg base n (mt_ K "Notebook" "version") (fdOf K (mt_ K "Notebook" "version")) ["self", "number"] (spM (G K) c.Notebook_version)
  law_cell : FnD P wd K mg base n (fa_ K "_law_cell") (fdOf K (fa_ K "_law_cell")) ["_law_script", "_law_k"] (spM (G K) c.law_cell)
  law_seed : FnD P wd K mg base n (fa_ K "_law_seed") (fdOf K (fa_ K "_law_seed")) ["_law_seed_here", "_law_k"] (spM (G K) c.law_seed)
  law_pick : FnD P wd K mg base n (fa_ K "_law_pick") (fdOf K (fa_ K "_law_pick")) ["_law_seed_here", "_law_many"] (spM (G K) c.law_pick)
  law_sum : FnD P wd K mg base n (fa_ K "_law_sum") (fdOf K (fa_ K "_law_sum")) ["_law_seed_here", "_law_deep"] (spM (G K) c.law_sum)
  law_source : FnD P wd K mg base n (fa_ K "_law_source") (fdOf K (fa_ K "_law_source")) ["_law_seed_here"] (spM (G K) c.law_source)
  law : FnD P wd K mg base n (fa_ K "law") (fdOf K (fa_ K "law")) ["_law_script"] (spM (G K) c.law)
  mk_Notebook : MkD P wd K mg base n (G K) "Notebook" (mt_ K "Notebook" "__init__") (fdOf K (mt_ K "Notebook" "__init__")) ["self"] c.mk_Notebook
  mk_Cell : MkD P wd K mg base n (G K) "Cell" (mt_ K "Cell" "__init__") (fdOf K (mt_ K "Cell" "__init__")) ["self", "source"] c.mk_Cell
  clo : CloF P wd K mg base n (G K) c.clo
section
variable {P : Program} {wd : World} {K : PySem.W.Frag} {mg : Str → Option Value} {base : Heap}
end
end Z
set_option Elab.async false
set_option linter.all false
set_option maxRecDepth 100000
set_option maxHeartbeats 4000000
namespace Z
open PySem L2 Evl NdefX LamX
/-! ## sources are taken -/
theorem w_within (n : Nat) (S : Store) (i lo hi : Int) : (F (n + 1)).is_within [.d (.int i), .d (.int lo), .d (.int hi)] S = .ok (.d (.bl (decide (lo ≤ i) && decide (i ≤ hi)))) S := by
  rw [F_is_within]
  refine z_T rfl (z_ret (S1 := S) ?_) (trim_same S)
  simp only [eVar, eDat, e1, e2, e2', rbind, aCons, aNil, eCall, eCall0, eB, bVal, bTruth, bAnd, bOr, bNot, eAnd, eOr, eNot, eNotT, eIf, rbool, rtruth, okd, gIsi, kindV, isK, eChain, gLe', gLt, gGt, gGe, gInt, eTup, rtup,   List.getElem?_cons_zero, List.getElem?_cons_succ, List.map_cons, List.map_nil, List.cons_append, List.nil_append, List.replicate, Nat.sub_self, Nat.reduceSub, Option.map_some, Option.some.injEq, if_true, if_false, ite_true, ite_false, Bool.not_true, Bool.not_false, reduceIte, reduceCtorEq, Bool.false_eq_true,   String.reduceBEq, Bool.or_false, Bool.false_or, Bool.and_false, Bool.and_true, Bool.false_and, Bool.true_and, Bool.or_true, Bool.true_or, List.isEmpty_cons, List.isEmpty_nil]
  by_cases h1 : lo ≤ i <;> simp [h1]
theorem w_name (n : Nat) (S : Store) {s : Str} (h : nameStr s = true) : (F (n + 1)).is_name [.d (.str s)] S = .ok (.d (.bl true)) S := by
  rw [F_is_name]
  unfold nameStr nameLen at h
  simp only [Bool.and_eq_true, decide_eq_true_eq, Bool.not_eq_true', decide_eq_false_iff_not] at h
  obtain ⟨⟨⟨h1, h2⟩, h3⟩, h4⟩ := h
  have hl : s.length ≤ 100000 := by omega
  refine z_T rfl (z_seq (e1 := [some (.d (.str s)), none]) (S1 := S) (z_if (S1 := S) (b := false) ?_ rfl) (z_ret (S1 := S) ?_)) (trim_same S)
  · have hb : gInA false (.d (.str s)) (.d (.tup (l_BARRED.map .str))) S = .ok (.d (.bl false)) S := by
      rw [in_strs]
      have : ¬ s ∈ l_BARRED := h3
      rw [decide_eq_false this]
    simp only [eVar, eDat, e1, e2, e2', rbind, aCons, aNil, eCall, eCall0, eB, bVal, bTruth, bAnd, bOr, bNot, eAnd, eOr, eNot, eNotT, eIf, rbool, rtruth, okd, gIsi, kindV, isK, eChain, gLe', gLt, gGt, gGe, gInt, eTup, rtup,   List.getElem?_cons_zero, List.getElem?_cons_succ, List.map_cons, List.map_nil, List.cons_append, List.nil_append, List.replicate, Nat.sub_self, Nat.reduceSub, Option.map_some, Option.some.injEq, if_true, if_false, ite_true, ite_false, Bool.not_true, Bool.not_false, reduceIte, reduceCtorEq, Bool.false_eq_true,   String.reduceBEq, Bool.or_false, Bool.false_or, Bool.and_false, Bool.and_true, Bool.false_and, Bool.true_and, Bool.or_true, Bool.true_or, List.isEmpty_cons, List.isEmpty_nil]
    simp [gLen, lenOf, hl, okd, h1, h2, hb]
  · have hc : eComp false (iAny (eVar 0)) (gN 1) (bVal (e2' (gInA true) (eVar 1) (eDat (.str "abcdefghijklmnopqrstuvwxyz")))) (eVar 1) [1] [some (.d (.str s)), none] S = .ok (.d (.lst [])) S := by
      rw [comp_frz (P := fun _ => false) (Fv := fun _ => .non) (iAny_str (s := s) rfl) trivial (by unfold signs; rw [List.length_map]; exact hl) fun x hx => ?_]
      · simp
      · obtain ⟨k, hk, rfl⟩ := List.mem_map.mp hx
        refine ⟨_, rfl, ?_, fun z => by cases z⟩
        have hk' := of_decide_eq_true (List.all_eq_true.mp h4 k hk)
        have e : gInA true (.d (.str ⟨#[k]⟩)) (.d (.str "abcdefghijklmnopqrstuvwxyz")) S = .ok (.d (.bl false)) S := by
          rw [in_sign]
          have : k ∈ (Str.ofString "abcdefghijklmnopqrstuvwxyz").cps.toList := hk'
          rw [decide_eq_true this]; rfl
        refine Eq.trans (b := rbind (gInA true (.d (.str ⟨#[k]⟩)) (.d (.str "abcdefghijklmnopqrstuvwxyz")) S) rbool) rfl ?_
        rw [e]; rfl
    unfold eNotT bTruth
    rw [hc]; rfl

theorem w_all (n : Nat) (S : Store) {f : List Val → Store → Res Val} {l : List Dat} {e : Envr} {it : IF} {j : Nat} {args : AF} (hi : it e S = .ok (l.map .d, none) S) (hl : l.length ≤ 100000) (hj : j < e.length)
    (h : ∀ x ∈ l, ∃ a, args ((wipeE e [j]).set j (some (.d x))) S = .ok a S ∧ f a S = .ok (.d (.bl true)) S) : eNotT (eComp false it (gN j) (bNot (bTruth (eCall f args))) (eVar j) [j]) e S = .ok (.d (.bl true)) S := by
  have hc : eComp false it (gN j) (bNot (bTruth (eCall f args))) (eVar j) [j] e S = .ok (.d (.lst [])) S := by
    rw [comp_frz (P := fun _ => false) (Fv := fun _ => .non) hi trivial (by rw [List.length_map]; exact hl) fun x hx => ?_]
    · simp
    · obtain ⟨y, hy, rfl⟩ := List.mem_map.mp hx
      obtain ⟨a, h1, h2⟩ := h y hy
      refine ⟨_, rfl, ?_, fun z => by cases z⟩
      unfold bNot bTruth eCall
      rw [h1]
      dsimp only [rbind]
      rw [h2]; rfl
  exact z_notT hc rfl
theorem w_sum : ∀ (k : Nat) {e : Sm} (n : Nat) (S : Store), okSm k e → k + 2 ≤ n → (F n).is_sum [.d (encS e), .d (.int k)] S = .ok (.d (.bl true)) S
  | k, .nam s, n + 1, S, h, hn => by
    have hs : nameStr s = true := by cases k <;> exact h
    obtain ⟨m, rfl⟩ : ∃ m, n = m + 1 := ⟨n - 1, by omega⟩
    rw [F_is_sum]
    refine z_T rfl (z_seqR (z_ifT (S1 := S) ?_ (z_ret (S1 := S) ?_))) (trim_same S)
    · rfl
    · show (F (m + 1)).is_name [.d (.str s)] S = _
      exact w_name m S hs
  | k, .num i, n + 1, S, h, hn => by
    have hi : 0 ≤ i ∧ i ≤ 9999 := by cases k <;> exact h
    obtain ⟨m, rfl⟩ : ∃ m, n = m + 1 := ⟨n - 1, by omega⟩
    rw [F_is_sum]
    refine z_T rfl (z_seq (S1 := S) (z_ifF (S1 := S) rfl rfl) (z_seqR (z_ifT (S1 := S) rfl (z_ret (S1 := S) ?_)))) (trim_same S)
    show (F (m + 1)).is_within [.d (.int i), .d (.int 0), .d (.int 9999)] S = _
    rw [w_within, decide_eq_true hi.1, decide_eq_true hi.2]; rfl
  | k + 1, .op w a b, n + 1, S, h, hn => by
    rw [F_is_sum]
    have h0 : gSub (.d (encS (.op w a b))) (.d (.int 0)) S = .ok (.d (.str w)) S := sub_at (i := 0) (l := [Dat.str w, encS a, encS b]) rfl
    have hk : gLt (.d (.int ((k + 1 : Nat) : Int))) (.d (.int 1)) S = .ok (.d (.bl false)) S := by
      show Res.ok (Val.d (.bl (decide (((k + 1 : Nat) : Int) < 1)))) S = _
      rw [decide_eq_false (by omega)]
    refine z_T rfl (z_seq (S1 := S) (z_ifF (S1 := S) rfl rfl) (z_seq (S1 := S) (z_ifF (S1 := S) rfl rfl) (z_seq (S1 := S) (z_ifF (S1 := S) ?_ rfl) (z_seqR (z_ifT (S1 := S) ?_ (z_ret (S1 := S) ?_)))))) (trim_same S)
    · exact z_orF (z_val (z_e2 rfl rfl hk)) (z_orF (S1 := S) rfl (z_bnot (b := true) (z_truB (z_e1 (z_e2 rfl rfl h0) rfl))))
    · refine z_orT (z_andT (S1 := S) (z_val (z_e2' (z_e2 rfl rfl h0) rfl ?_)) (z_val (S1 := S) rfl))
      exact in_strs.trans (by rw [decide_eq_true (show w ∈ l_WORDS from h.1)])
    · refine w_all n S (l := [encS a, encS b]) (iAny_tup (z_sli rfl (z_some rfl) rfl sli_tup)) (Nat.le_of_ble_eq_true rfl) (Nat.le_of_ble_eq_true rfl) fun x hx => ?_
      refine ⟨[.d x, .d (.int k)], ?_, ?_⟩
      · refine z_cons rfl (z_cons (z_e2 rfl rfl ?_) z_nil)
        show Res.ok (Val.d (.int (((k + 1 : Nat) : Int) - 1))) S = _
        rw [show ((k + 1 : Nat) : Int) - 1 = k by omega]
      · simp only [List.mem_cons, List.not_mem_nil, or_false] at hx
        rcases hx with rfl | rfl
        · exact w_sum k n S h.2.1 (by omega)
        · exact w_sum k n S h.2.2 (by omega)
  | k + 1, .ite t a b, n + 1, S, h, hn => by
    rw [F_is_sum]
    have h0 : gSub (.d (encS (.ite t a b))) (.d (.int 0)) S = .ok (.d (.str "if")) S := sub_at (i := 0) (l := [Dat.str "if", encS t, encS a, encS b]) rfl
    have hk : gLt (.d (.int ((k + 1 : Nat) : Int))) (.d (.int 1)) S = .ok (.d (.bl false)) S := by
      show Res.ok (Val.d (.bl (decide (((k + 1 : Nat) : Int) < 1)))) S = _
      rw [decide_eq_false (by omega)]
    refine z_T rfl (z_seq (S1 := S) (z_ifF (S1 := S) rfl rfl) (z_seq (S1 := S) (z_ifF (S1 := S) rfl rfl) (z_seq (S1 := S) (z_ifF (S1 := S) ?_ rfl) (z_seqR (z_ifT (S1 := S) ?_ (z_ret (S1 := S) ?_)))))) (trim_same S)
    · exact z_orF (z_val (z_e2 rfl rfl hk)) (z_orF (S1 := S) rfl (z_bnot (b := true) (z_truB (z_e1 (z_e2 rfl rfl h0) rfl))))
    · refine z_orF (z_andF (z_val (z_e2' (z_e2 rfl rfl h0) rfl ?_))) (z_andT (S1 := S) (z_val (z_e2 (z_e2 rfl rfl h0) rfl (eq_str.trans (by rw [decide_eq_true rfl])))) (z_val (S1 := S) rfl))
      exact in_strs.trans (by rw [decide_eq_false (show ¬ ("if" : Str) ∈ l_WORDS by decide +kernel)])
    · refine w_all n S (l := [encS t, encS a, encS b]) (iAny_tup (z_sli rfl (z_some rfl) rfl sli_tup)) (Nat.le_of_ble_eq_true rfl) (Nat.le_of_ble_eq_true rfl) fun x hx => ?_
      refine ⟨[.d x, .d (.int k)], ?_, ?_⟩
      · refine z_cons rfl (z_cons (z_e2 rfl rfl ?_) z_nil)
        show Res.ok (Val.d (.int (((k + 1 : Nat) : Int) - 1))) S = _
        rw [show ((k + 1 : Nat) : Int) - 1 = k by omega]
      · simp only [List.mem_cons, List.not_mem_nil, or_false] at hx
        rcases hx with rfl | rfl | rfl
        · exact w_sum k n S h.1 (by omega)
        · exact w_sum k n S h.2.1 (by omega)
        · exact w_sum k n S h.2.2 (by omega)
  | 0, .op _ _ _, _, _, h, _ => h.elim
  | 0, .ite _ _ _, _, _, h, _ => h.elim
  | k, .nam _, 0, _, _, hn => by omega
  | k, .num _, 0, _, _, hn => by omega
  | k + 1, .op _ _ _, 0, _, _, hn => by omega
  | k + 1, .ite _ _ _, 0, _, _, hn => by omega
theorem w_row (n : Nat) (S : Store) {r : Rw} (h : okRw r) (hn : 9 ≤ n) : (F n).is_row [.d (encR r)] S = .ok (.d (.bl true)) S := by
  obtain ⟨m, rfl⟩ : ∃ m, n = m + 2 := ⟨n - 2, by omega⟩
  rw [F_is_row]
  cases r with
  | shw e =>
    have h0 : gSub (.d (encR (.shw e))) (.d (.int 0)) S = .ok (.d (.str "show")) S := sub_at (i := 0) (l := [Dat.str "show", encS e]) rfl
    have h1 : gSub (.d (encR (.shw e))) (.d (.int 1)) S = .ok (.d (encS e)) S := sub_at (i := 1) (l := [Dat.str "show", encS e]) rfl
    refine z_T rfl (z_seq (S1 := S) (z_ifF (S1 := S) (z_orF (S1 := S) rfl (z_orF (S1 := S) rfl (z_bnot (b := true) (z_truB (z_e1 (z_e2 rfl rfl h0) rfl))))) rfl) (z_seqR (z_ifT (S1 := S) (z_val (z_e2 (z_e2 rfl rfl h0) rfl (eq_str.trans (by rw [decide_eq_true rfl])))) (z_ret (z_eandT (S1 := S) rfl (z_call (z_cons (z_e2 rfl rfl h1) rfl) (w_sum 6 (m + 1) S h (by omega)))))))) (trim_same S)
  | set x e =>
    have h0 : gSub (.d (encR (.set x e))) (.d (.int 0)) S = .ok (.d (.str "set")) S := sub_at (i := 0) (l := [Dat.str "set", .str x, encS e]) rfl
    have h1 : gSub (.d (encR (.set x e))) (.d (.int 1)) S = .ok (.d (.str x)) S := sub_at (i := 1) (l := [Dat.str "set", .str x, encS e]) rfl
    have h2 : gSub (.d (encR (.set x e))) (.d (.int 2)) S = .ok (.d (encS e)) S := sub_at (i := 2) (l := [Dat.str "set", .str x, encS e]) rfl
    refine z_T rfl (z_seq (S1 := S) (z_ifF (S1 := S) (z_orF (S1 := S) rfl (z_orF (S1 := S) rfl (z_bnot (b := true) (z_truB (z_e1 (z_e2 rfl rfl h0) rfl))))) rfl)
      (z_seq (S1 := S) (z_ifF (S1 := S) (z_val (z_e2 (z_e2 rfl rfl h0) rfl (eq_str.trans (by rw [decide_eq_false (by decide +kernel)])))) rfl)
      (z_ret (z_eandT (S1 := S) (z_e2 (z_e2 rfl rfl h0) rfl (eq_str.trans (by rw [decide_eq_true rfl]))) (z_eandT (S1 := S) rfl (z_eandT (S1 := S) (z_call (z_cons (z_e2 rfl rfl h1) z_nil) (w_name m S h.1)) (z_call (z_cons (z_e2 rfl rfl h2) rfl) (w_sum 6 (m + 1) S h.2 (by omega))))))))) (trim_same S)
theorem w_source (n : Nat) (S : Store) {l : List Rw} (h : okSrc l) (hn : 10 ≤ n) : (F n).is_source [.d (enc l)] S = .ok (.d (.bl true)) S := by
  obtain ⟨m, rfl⟩ : ∃ m, n = m + 1 := ⟨n - 1, by omega⟩
  rw [F_is_source]
  have hl := h.1
  have hg : gGt (.d (.int ((l.map encR).length : Nat))) (.d (.int 8)) S = .ok (.d (.bl false)) S := by
    show Res.ok (Val.d (.bl (decide ((8 : Int) < ((l.map encR).length : Nat))))) S = _
    rw [decide_eq_false (by rw [List.length_map]; omega)]
  refine z_T rfl (z_seq (S1 := S) (z_ifF (S1 := S) (z_orF (S1 := S) rfl (z_val (z_e2 (z_e1 rfl len_tup) rfl hg))) rfl) (z_ret (w_all m S (l := l.map encR) (iAny_tup rfl) (by rw [List.length_map]; omega) (Nat.le_of_ble_eq_true rfl) fun x hx => ?_))) (trim_same S)
  obtain ⟨r, hr, rfl⟩ := List.mem_map.mp hx
  exact ⟨_, rfl, w_row m S (h.2 r hr) (by omega)⟩
theorem w_look (n : Nat) (S : Store) {l : List Rw} (h : okSrc l) (hn : 11 ≤ n) : (F n).look [.d (enc l)] S = .ok (.d .non) S := by
  obtain ⟨m, rfl⟩ : ∃ m, n = m + 1 := ⟨n - 1, by omega⟩
  rw [F_look]
  exact z_Tn rfl (z_ifF (S1 := S) (z_bnot (b := true) (z_truB (z_call rfl (w_source m S h (by omega))))) rfl) (trim_same S)
/-- a source of too many rows -/
theorem w_many (n : Nat) (S : Store) {l : List Rw} (h : 8 < l.length) : (F (n + 2)).look [.d (enc l)] S = .exc ⟨"BadSource", none⟩ S := by
  rw [F_look]
  have hg : gGt (.d (.int ((l.map encR).length : Nat))) (.d (.int 8)) S = .ok (.d (.bl true)) S := by
    show Res.ok (Val.d (.bl (decide ((8 : Int) < ((l.map encR).length : Nat))))) S = _
    rw [decide_eq_true (by rw [List.length_map]; omega)]
  have hs : (F (n + 1)).is_source [.d (enc l)] S = .ok (.d (.bl false)) S := by
    rw [F_is_source]
    exact z_T rfl (z_seqR (z_ifT (S1 := S) (z_orF (S1 := S) rfl (z_val (z_e2 (z_e1 rfl len_tup) rfl hg))) (z_ret rfl))) (trim_same S)
  exact z_TX rfl (z_ifT (S1 := S) (z_bnot (b := false) (z_truB (z_call rfl hs))) rfl) (trim_same S)
/-! ## what the laws draw -/
theorem mul_right {S : Store} {i j : Int} (h : -(2 ^ 64) < j ∧ j < 2 ^ 64) : gMul false (.d (.int i)) (.d (.int j)) S = .ok (.d (.int (i * j))) S := by
  show (if CMul i j then okd (.int (i * j)) S else .stuck) = _
  rw [if_pos (.inr h)]; rfl
theorem mul_left {S : Store} {i j : Int} (h : -(2 ^ 64) < i ∧ i < 2 ^ 64) : gMul false (.d (.int i)) (.d (.int j)) S = .ok (.d (.int (i * j))) S := by
  show (if CMul i j then okd (.int (i * j)) S else .stuck) = _
  rw [if_pos (.inl h)]; rfl
theorem div_int {S : Store} {i j : Int} (h : 0 < j ∧ j < 1073741824) : gDiv (.d (.int i)) (.d (.int j)) S = .ok (.d (.int (i / j))) S := by
  have h' : CDiv i j := h
  show (if CDiv i j then okd (.int (i / j)) S else .stuck) = _
  rw [if_pos h']; rfl
theorem w_seed (k : Nat) {S : Store} (s i : Int) : (F (k + 1)).law_seed [.d (.int s), .d (.int i)] S = .ok (.d (.int (lawSeed s i))) S := by
  rw [F_law_seed]
  have hp : gPow (.d (.int ((s * 1103515245 + 7919 * i + 12345) % 2147483647))) (.d (.int 5)) S = .ok (.d (.int (((s * 1103515245 + 7919 * i + 12345) % 2147483647) ^ 5))) S := by
    show (if CPow ((s * 1103515245 + 7919 * i + 12345) % 2147483647) 5 then okd (.int (((s * 1103515245 + 7919 * i + 12345) % 2147483647) ^ (5 : Int).toNat)) S else .stuck) = _
    rw [if_pos ⟨by decide, by decide, natAbs_mod _⟩]; rfl
  exact z_T rfl (z_ret (z_e2 (z_e2 (z_e2 (z_e2 (z_e2 (z_e2 rfl rfl (mul_right ⟨by decide, by decide⟩)) (z_e2 rfl rfl (mul_left ⟨by decide, by decide⟩)) rfl) rfl rfl) rfl (mod_int (by decide))) rfl hp) rfl (mod_int (by decide)))) (trim_same S)
theorem w_pick (k : Nat) {S : Store} {s m : Int} (hm : 0 < m) : (F (k + 1)).law_pick [.d (.int s), .d (.int m)] S = .ok (.d (.int (lawPick s m))) S := by
  rw [F_law_pick]
  exact z_T rfl (z_ret (z_e2 (z_e2 rfl rfl (div_int ⟨by decide, by decide⟩)) rfl (mod_int hm))) (trim_same S)
/-- e // a % b -/
theorem z_dm {e : Envr} {S : Store} {f g h : EF} {s a b : Int} (hf : f e S = .ok (.d (.int s)) S) (hg : g e S = .ok (.d (.int a)) S) (hh : h e S = .ok (.d (.int b)) S) (ha : 0 < a ∧ a < 1073741824) (hb : 0 < b) : e2 gMod (e2 gDiv f g) h e S = .ok (.d (.int (s / a % b))) S :=
  z_e2 (z_e2 hf hg (div_int ha)) hh (mod_int hb)
theorem enc_leaf (s : Int) : ((([.int (s / 7 % 10), .int (s / 7 % 4), .int (s / 7 % 10000), .int 0] : List Dat) ++ [.str "a", .str "b", .str "c", .str "wxyz", .str "a", .str "b"])[(s / 5 % 10).toNat]?) = some (encS (leaf s)) := by
  have h : (s / 5 % 10).toNat < 10 := by omega
  unfold leaf leafL
  generalize (s / 5 % 10).toNat = i at h
  match i, h with
  | 0, _ => rfl
  | 1, _ => rfl
  | 2, _ => rfl
  | 3, _ => rfl
  | 4, _ => rfl
  | 5, _ => rfl
  | 6, _ => rfl
  | 7, _ => rfl
  | 8, _ => rfl
  | 9, _ => rfl
theorem enc_word (s : Int) : ([.str "add", .str "less", .str "times", .str "over", .str "same", .str "if", .str "add"] : List Dat)[(s / 11 % 7).toNat]? = some (.str (drawWord s)) := by
  have h : (s / 11 % 7).toNat < 7 := by omega
  unfold drawWord drawWords
  generalize (s / 11 % 7).toNat = i at h
  match i, h with
  | 0, _ => rfl
  | 1, _ => rfl
  | 2, _ => rfl
  | 3, _ => rfl
  | 4, _ => rfl
  | 5, _ => rfl
  | 6, _ => rfl
theorem sub_lstI {S : Store} {l : List Dat} {i : Int} {x : Dat} (h0 : 0 ≤ i) (h : l[i.toNat]? = some x) : gSub (.d (.lst l)) (.d (.int i)) S = .ok (.d x) S := by
  have := sub_lst (S := S) h
  rwa [Int.toNat_of_nonneg h0] at this
theorem trim_junk (S U : Store) : trim S (S ++ U) = some S := trim_pre rfl fun _ _ _ _ => .inl rfl
theorem w_dsum : ∀ (n k : Nat) {S : Store} (s : Int), n + 2 ≤ k → (F k).law_sum [.d (.int s), .d (.int n)] S = .ok (.d (encS (lawSum n s))) S
  | n, k + 1, S, s, h => by
    obtain ⟨j, rfl⟩ : ∃ j, k = j + 1 := ⟨k - 1, by omega⟩
    rw [F_law_sum]
    have hlt : gLt (.d (.int (n : Int))) (.d (.int 1)) S = .ok (.d (.bl (decide ((n : Int) < 1)))) S := rfl
    have heq : gEq (.d (.int (lawPick s 3))) (.d (.int 0)) S = .ok (.d (.bl (decide (lawPick s 3 = 0)))) S := eq_int ..
    have hor : ∀ {e : Envr}, e[0]? = some (some (.d (.int s))) → e[1]? = some (some (.d (.int n))) → bOr (bVal (e2 gLt (eVar 1) (eDat (.int 1)))) (bVal (e2 gEq (eCall (F (j + 1)).law_pick (aCons (eVar 0) (aCons (eDat (.int 3)) aNil))) (eDat (.int 0)))) e S = .ok (decide ((n : Int) < 1) || decide (lawPick s 3 = 0)) S := by
      intro e h0 h1
      have v0 : eVar 0 e S = .ok (.d (.int s)) S := by unfold eVar; rw [h0]
      have v1 : eVar 1 e S = .ok (.d (.int n)) S := by unfold eVar; rw [h1]
      by_cases hn : (n : Int) < 1
      · rw [decide_eq_true hn] at hlt ⊢
        exact z_orT (z_val (z_e2 v1 rfl hlt))
      · rw [decide_eq_false hn] at hlt ⊢
        exact z_orF (z_val (z_e2 v1 rfl hlt)) (z_val (z_e2 (z_call (z_cons v0 (z_cons rfl z_nil)) (w_pick j (by decide))) rfl heq))
    by_cases hb : (decide ((n : Int) < 1) || decide (lawPick s 3 = 0)) = true
    · rw [lawSum_leaf hb]
      refine z_T rfl (z_seqR (z_ifT (S1 := S) ((hor rfl rfl).trans (by rw [hb])) (z_seq (S1 := S ++ [none]) (z_asg (z_frzl (l := [.int (s / 7 % 10), .int (s / 7 % 4), .int (s / 7 % 10000), .int 0]) (z_cons (z_dm rfl rfl rfl ⟨by decide, by decide⟩ (by decide)) (z_cons (z_dm rfl rfl rfl ⟨by decide, by decide⟩ (by decide)) (z_cons (z_dm rfl rfl rfl ⟨by decide, by decide⟩ (by decide)) (z_cons rfl z_nil)))) (Nat.le_of_ble_eq_true rfl)))
        (z_ret (z_e2 (S2 := S ++ [none] ++ [none]) (z_e2 (S1 := S ++ [none]) rfl (z_frzl (l := [.str "a", .str "b", .str "c", .str "wxyz", .str "a", .str "b"]) rfl (Nat.le_of_ble_eq_true rfl)) (add_lst (Nat.le_of_ble_eq_true rfl))) (z_dm rfl rfl rfl ⟨by decide, by decide⟩ (by decide)) (sub_lstI (by omega) (enc_leaf s))))))) ?_
      rw [List.append_assoc]; exact trim_junk _ _
    · obtain ⟨m, rfl⟩ : ∃ m, n = m + 1 := ⟨n - 1, by
        have : ¬ (n : Int) < 1 := fun h => hb (by rw [decide_eq_true h]; rfl)
        omega⟩
      rw [lawSum_more (Bool.eq_false_iff.mpr hb)]
      have hc : eComp false (iRange1 (eDat (.int 3))) (gN 3) tYesF (eCall (F (j + 1)).law_sum (aCons (eCall (F (j + 1)).law_seed (aCons (eVar 0) (aCons (eVar 3) aNil))) (aCons (e2 gSub' (eVar 1) (eDat (.int 1))) aNil))) [3] [some (.d (.int s)), some (.d (.int (m + 1 : Nat))), none, none, none, none] S = .ok (.d (.lst [encS (lawSum m (lawSeed s 0)), encS (lawSum m (lawSeed s 1)), encS (lawSum m (lawSeed s 2))])) S := by
        refine comp_all (Fv := fun x => match x with | .d (.int i) => encS (lawSum m (lawSeed s i)) | _ => .non) (iRange1_n (n := 3) rfl (by decide)) trivial (by decide) fun x hx => ?_
        obtain ⟨i, hi, rfl⟩ := List.mem_map.mp hx
        have hs : gSub' (.d (.int (m + 1 : Nat))) (.d (.int 1)) S = .ok (.d (.int (m : Nat))) S := by
          show Res.ok (Val.d (.int ((m + 1 : Nat) - 1))) S = _
          rw [show ((m + 1 : Nat) : Int) - 1 = (m : Nat) by omega]
        exact ⟨_, rfl, z_call (z_cons (z_call rfl (w_seed j s _)) (z_cons (z_e2 rfl rfl hs) z_nil)) (w_dsum m (j + 1) (S := S) _ (by omega))⟩
      refine z_T rfl (z_seq (S1 := S) (z_ifF (S1 := S) ((hor rfl rfl).trans (by rw [Bool.eq_false_iff.mpr hb])) rfl) (z_seq (S1 := S) (z_asg hc) (z_seq (S1 := S ++ [none]) (z_asg (z_e2 (z_frzl (l := [.str "add", .str "less", .str "times", .str "over", .str "same", .str "if", .str "add"]) rfl (Nat.le_of_ble_eq_true rfl)) (z_dm rfl rfl rfl ⟨by decide, by decide⟩ (by decide)) (sub_lstI (by omega) (enc_word s)))) (z_ret (S1 := S ++ [none]) (z_eif (S1 := S ++ [none]) (z_val (z_e2 rfl rfl eq_str)) ?_))))) (trim_junk _ _)
      by_cases hw : drawWord s = "if"
      · rw [decide_eq_true hw, if_pos rfl, if_pos hw]
        exact z_tup (m := [.str "if", encS (lawSum m (lawSeed s 0)), encS (lawSum m (lawSeed s 1)), encS (lawSum m (lawSeed s 2))]) (z_cons rfl (z_cons (z_e2 rfl rfl (sub_lst (i := 0) rfl)) (z_cons (z_e2 rfl rfl (sub_lst (i := 1) rfl)) (z_cons (z_e2 rfl rfl (sub_lst (i := 2) rfl)) z_nil)))) (Nat.le_of_ble_eq_true rfl)
      · rw [decide_eq_false hw, if_neg (by decide), if_neg hw]
        exact z_tup (m := [.str (drawWord s), encS (lawSum m (lawSeed s 0)), encS (lawSum m (lawSeed s 1))]) (z_cons rfl (z_cons (z_e2 rfl rfl (sub_lst (i := 0) rfl)) (z_cons (z_e2 rfl rfl (sub_lst (i := 1) rfl)) z_nil))) (Nat.le_of_ble_eq_true rfl)
theorem enc_deep (o : Int) : ([.int (o / 7 % 3), .int 6] : List Dat)[(if decide (o / 13 % 9 = 0) = true then (1 : Int) else 0).toNat]? = some (.int ((drawDeep o).toNat : Nat)) := by
  have h := drawDeep_le o
  rw [Int.toNat_of_nonneg h.1]
  unfold drawDeep
  by_cases e : o / 13 % 9 = 0
  · rw [decide_eq_true e, if_pos rfl, if_pos e]; rfl
  · rw [decide_eq_false e, if_neg (by decide), if_neg e]; rfl
theorem enc_draw (o : Int) : ([.str "a", .str "b", .str "c", .str "wxyz"] : List Dat)[(o / 11 % 4).toNat]? = some (.str (drawNames.getD (o / 11 % 4).toNat "a")) := by
  have h : (o / 11 % 4).toNat < 4 := by omega
  unfold drawNames
  generalize (o / 11 % 4).toNat = i at h
  match i, h with
  | 0, _ => rfl
  | 1, _ => rfl
  | 2, _ => rfl
  | 3, _ => rfl
theorem enc_many (s : Int) : ([.int (s / 7 % 4), .int (1 + s / 7 % 3), .int (s / 7 % 9)] : List Dat)[(s / 11 % 3).toNat]? = some (.int ((drawMany s).toNat : Nat)) := by
  have h := drawMany_le s
  rw [Int.toNat_of_nonneg h.1]
  unfold drawMany
  have h' : (s / 11 % 3).toNat < 3 := by omega
  generalize (s / 11 % 3).toNat = i at h'
  match i, h' with
  | 0, _ => rfl
  | 1, _ => rfl
  | 2, _ => rfl
def drawV (s : Int) (j : Nat) : List Val := ((List.range j).map (drawRow s)).map fun r => .d (encR r)
theorem drawV_snoc (s : Int) (j : Nat) : drawV s (j + 1) = drawV s j ++ [.d (encR (drawRow s j))] := by
  unfold drawV; rw [List.range_succ, List.map_append, List.map_append]; rfl
theorem drawV_len (s : Int) (j : Nat) : (drawV s j).length = j := by simp [drawV]
theorem app_draw {S U : Store} {s : Int} {j : Nat} {y : Dat} (hj : j < 100000) (hy : y = encR (drawRow s j)) : gAppend (.ref S.length) [.d y] (S ++ (some (.lst (drawV s j)) :: U)) = .ok (.d .non) (S ++ (some (.lst (drawV s (j + 1))) :: U)) := by
  unfold gAppend
  rw [cell_at (m := drawV s j) (by rw [List.getElem?_append_right (Nat.le_refl _), Nat.sub_self]; rfl)]
  dsimp only
  rw [if_pos (by rw [drawV_len]; exact hj), List.set_append_right _ _ (Nat.le_refl _), Nat.sub_self, drawV_snoc, hy]; rfl
theorem z_TE {np N : Nat} {body : SF} {xs : List Val} {y : Dat} {S S2 : Store} (hl : xs.length = np) (h : ∃ S1, body (xs.map some ++ List.replicate (N - np) none) S = .rt (.d y) S1 ∧ trim S S1 = some S2) : fnT np N body xs S = .ok (.d y) S2 := by
  obtain ⟨S1, a, b⟩ := h
  exact z_T hl a b
theorem xt_seq {f g : SF} {e e1 : Envr} {S S1 : Store} {y : Val} {P : Store → Prop} (h : f e S = .nx e1 S1) (k : ∃ S2, g e1 S1 = .rt y S2 ∧ P S2) : ∃ S2, sSeq f g e S = .rt y S2 ∧ P S2 := by
  obtain ⟨S2, a, b⟩ := k
  exact ⟨S2, z_seq h a, b⟩
theorem xt_for {it : IF} {tg : GF} {body g' : SF} {e : Envr} {S S1 : Store} {l : List Val} {g : Option Nat} {y : Val} {P : Store → Prop} (I : Nat → Envr → Store → Prop) (hi : it e S = .ok (l, g) S1) (hg : ∀ i e S, I i e S → gd g l S) (h0 : I 0 e S1) (hb : ∀ j x e S, l[j]? = some x → I j e S → ∃ e1, tg x e = some e1 ∧ ∃ e2 S2, (body e1 S = .nx e2 S2 ∨ body e1 S = .ct e2 S2) ∧ I (j + 1) e2 S2)
    (k : ∀ e1 S1, I l.length e1 S1 → ∃ S2, g' e1 S1 = .rt y S2 ∧ P S2) : ∃ S2, sSeq (sFor it tg body) g' e S = .rt y S2 ∧ P S2 := by
  obtain ⟨e', S', a, b⟩ := for_inv I hi hg h0 hb
  exact xt_seq a (k _ _ b)
theorem z_frz1 {fa : AF} {e : Envr} {l : List Dat} {S U : Store} {c : Option Cell} (h : fa e (S ++ (c :: U)) = .ok (l.map .d) (S ++ (c :: U))) (hl : l.length ≤ 100000) : eFrz (eLst fa) e (S ++ (c :: U)) = .ok (.d (.lst l)) (S ++ (c :: (U ++ [none]))) :=
  (z_frzl h hl).trans (by rw [List.append_assoc]; rfl)
theorem drawV_has {S U : Store} {s : Int} {j : Nat} : lstOf (S ++ (some (.lst (drawV s j)) :: U)) (.ref S.length) = some (drawV s j) :=
  lst_at (by rw [List.getElem?_append_right (Nat.le_refl _), Nat.sub_self]; rfl)
theorem w_dsource (k : Nat) {S : Store} (s : Int) : (F (k + 9)).law_source [.d (.int s)] S = .ok (.d (enc (lawSource s))) S := by
  rw [F_law_source]
  have hm := drawMany_le s
  have app1 : ∀ (U : Store) (c o : Option Cell), S ++ (c :: U) ++ [o] = S ++ (c :: (U ++ [o])) := fun U c o => by rw [List.append_assoc]; rfl
  refine z_TE rfl (xt_seq (S1 := S ++ [some (.lst [])]) (e1 := [some (.d (.int s)), some (.ref S.length), none, none, none]) rfl (xt_for (S1 := S ++ [some (.lst [])] ++ [none]) (l := rangeV 0 (drawMany s).toNat) (g := none) (fun j e T => ∃ U a b c, e = [some (.d (.int s)), some (.ref S.length), a, b, c] ∧ T = S ++ (some (.lst (drawV s j)) :: U))
      (iRange1_n (n := (drawMany s).toNat) (z_e2 (z_frzl (l := [.int (s / 7 % 4), .int (1 + s / 7 % 3), .int (s / 7 % 9)]) (z_cons (z_dm rfl rfl rfl ⟨by decide, by decide⟩ (by decide)) (z_cons (z_e2 rfl (z_dm rfl rfl rfl ⟨by decide, by decide⟩ (by decide)) rfl) (z_cons (z_dm rfl rfl rfl ⟨by decide, by decide⟩ (by decide)) z_nil))) (Nat.le_of_ble_eq_true rfl)) (z_dm rfl rfl rfl ⟨by decide, by decide⟩ (by decide)) (sub_lstI (by omega) (enc_many s))) (by omega))
      (fun _ _ _ _ => trivial) ⟨[none], none, none, none, rfl, by rw [List.append_assoc]; rfl⟩ ?_ ?_))
  · rintro j x e T hx ⟨U, a, b, c, rfl, rfl⟩
    obtain ⟨hj, rfl⟩ := rangeV_get hx
    refine ⟨_, rfl, ?_⟩
    have hd := drawDeep_le (lawSeed s (20 + j))
    have hj2 : j < 100000 := by omega
    have e0 : (0 : Int) + (j : Nat) = (j : Nat) := by omega
    rw [e0]
    have first : ∀ {g : SF} {r : SRes}, g [some (.d (.int s)), some (.ref S.length), some (.d (.int j)), some (.d (.int (lawSeed s (20 + j)))), some (.d (encS (lawSum (drawDeep (lawSeed s (20 + j))).toNat (lawSeed (lawSeed s (20 + j)) 1))))] (S ++ (some (.lst (drawV s j)) :: (U ++ [none]))) = r →
        sSeq (sAsg 3 (eCall (F (k + 8)).law_seed (aCons (eVar 0) (aCons (e2 (gAdd false) (eDat (.int 20)) (eVar 2)) aNil)))) (sSeq (sAsg 4 (eCall (F (k + 8)).law_sum (aCons (eCall (F (k + 8)).law_seed (aCons (eVar 3) (aCons (eDat (.int 1)) aNil))) (aCons (e2 gSub (eFrz (eLst (aCons (e2 gMod (e2 gDiv (eVar 3) (eDat (.int 7))) (eDat (.int 3))) (aCons (eDat (.int 6)) aNil)))) (eB gToInt (aCons (e2 gEq (e2 gMod (e2 gDiv (eVar 3) (eDat (.int 13))) (eDat (.int 9))) (eDat (.int 0))) aNil))) aNil)))) g) [some (.d (.int s)), some (.ref S.length), some (.d (.int j)), b, c] (S ++ (some (.lst (drawV s j)) :: U)) = r := fun hg =>
      z_seq (z_asg (z_call rfl (w_seed (k + 7) s (20 + j)))) (z_seq (e1 := [some (.d (.int s)), some (.ref S.length), some (.d (.int j)), some (.d (.int (lawSeed s (20 + j)))), some (.d (encS (lawSum (drawDeep (lawSeed s (20 + j))).toNat (lawSeed (lawSeed s (20 + j)) 1))))]) (S1 := S ++ (some (.lst (drawV s j)) :: (U ++ [none]))) (z_asg (z_call (z_cons (z_call rfl (w_seed (k + 7) _ 1)) (z_cons (z_e2 (z_frz1 (l := [.int (lawSeed s (20 + j) / 7 % 3), .int 6]) (z_cons (z_dm rfl rfl rfl ⟨by decide, by decide⟩ (by decide)) (z_cons rfl z_nil)) (Nat.le_of_ble_eq_true rfl)) (z_B (z_cons (z_e2 (z_dm rfl rfl rfl ⟨by decide, by decide⟩ (by decide)) rfl eq_int) z_nil) rfl) (sub_lstI (by split <;> decide) (enc_deep _))) z_nil)) (w_dsum _ (k + 8) _ (by omega)))) hg)
    have gt : ∀ T : Store, gGt (.d (.int (lawPick (lawSeed s (20 + j)) 3))) (.d (.int 0)) T = .ok (.d (.bl (decide (0 < lawPick (lawSeed s (20 + j)) 3)))) T := fun _ => rfl
    by_cases hp : decide (0 < lawPick (lawSeed s (20 + j)) 3) = true
    · refine ⟨_, S ++ (some (.lst (drawV s (j + 1))) :: (U ++ [none] ++ [none])), .inl (first (z_ifT (z_val (z_e2 (z_call rfl (w_pick (k + 7) (by decide))) rfl ((gt _).trans (by rw [hp])))) (z_drop (z_mt rfl (by rw [drawV_has]; rfl) (z_cons (z_tup (m := [.str "set", .str (drawNames.getD (lawSeed s (20 + j) / 11 % 4).toNat "a"), encS (lawSum (drawDeep (lawSeed s (20 + j))).toNat (lawSeed (lawSeed s (20 + j)) 1))]) (z_cons rfl (z_cons (z_e2 (z_frz1 (l := [.str "a", .str "b", .str "c", .str "wxyz"]) rfl (Nat.le_of_ble_eq_true rfl)) (z_dm rfl rfl rfl ⟨by decide, by decide⟩ (by decide)) (sub_lstI (by omega) (enc_draw _))) (z_cons rfl z_nil))) (Nat.le_of_ble_eq_true rfl)) z_nil) (app_draw hj2 (by rw [drawRow_set hp]; rfl)))))), _, _, _, _, rfl, rfl⟩
    · have hp' := Bool.eq_false_iff.mpr hp
      refine ⟨_, S ++ (some (.lst (drawV s (j + 1))) :: (U ++ [none])), .inl (first (z_ifF (z_val (z_e2 (z_call rfl (w_pick (k + 7) (by decide))) rfl ((gt _).trans (by rw [hp'])))) (z_drop (z_mt rfl (by rw [drawV_has]; rfl) (z_cons (z_tup (m := [.str "show", encS (lawSum (drawDeep (lawSeed s (20 + j))).toNat (lawSeed (lawSeed s (20 + j)) 1))]) (z_cons rfl (z_cons rfl z_nil)) (Nat.le_of_ble_eq_true rfl)) z_nil) (app_draw hj2 (by rw [drawRow_shw hp']; rfl)))))), _, _, _, _, rfl, rfl⟩
  · rw [rangeV_len]
    rintro e1 S1 ⟨U, a, b, c, rfl, rfl⟩
    have ht : gTuple [.ref S.length] (S ++ (some (.lst (drawV s (drawMany s).toNat)) :: U)) = .ok (.d (enc (lawSource s))) (S ++ (some (.lst (drawV s (drawMany s).toNat)) :: U)) := by
      unfold gTuple
      dsimp only
      rw [drawV_has]
      have h2 : drawV s (drawMany s).toNat = ((lawSource s).map encR).map Val.d := by
        unfold lawSource drawV; rw [List.map_map (f := encR)]; rfl
      rw [h2]
      show Res.ok (mkTup (((lawSource s).map encR).map Val.d)) _ = _
      rw [mkTup_map]; rfl
    exact ⟨_, z_ret (z_B (z_cons rfl z_nil) ht), trim_junk _ _⟩
end Z
set_option Elab.async false
set_option linter.all false
set_option maxRecDepth 100000
set_option maxHeartbeats 4000000
namespace Z
open PySem L2 Evl NdefX LamX
/-! ## notebooks: the methods -/
section
variable {S : Store} {m : NbM}
theorem n_cells (h : NbAt S m) : gFld ["Notebook"] "cells" (.ref m.b) S = .ok (.ref m.c) S := fld_at h.ins (.head _) rfl
theorem n_row (h : NbAt S m) : gFld ["Notebook"] "row" (.ref m.b) S = .ok (.ref m.r) S := fld_at h.ins (.head _) rfl
theorem n_after (h : NbAt S m) : gFld ["Notebook"] "after" (.ref m.b) S = .ok (.d (.int m.after)) S := fld_at h.ins (.head _) rfl
theorem n_isIns (h : NbAt S m) (x : Str) (hx : (List.lookup x [(("cells" : Str), Val.ref m.c), ("row", .ref m.r), ("after", .d (.int m.after))]).isNone = true) : isIns "Notebook" x (.ref m.b) S = true := isIns_at h.ins hx
theorem n_cell (h : NbAt S m) {n : Int} {q : Nat × CellM} (hq : kget m.cells n = some q) : gSub (.ref m.c) (.d (.int n)) S = .ok (.ref q.1) S :=
  sub_dct h.dct rfl (by rw [m.kget, hq]; rfl)
theorem n_in (h : NbAt S m) (n : Int) (b : Bool) : gInA b (.d (.int n)) (.ref m.c) S = .ok (.d (.bl (if b then !(kget m.cells n).isSome else (kget m.cells n).isSome))) S := by
  rw [in_dct b h.dct rfl, m.kget, Option.isSome_map]
theorem n_has (h : NbAt S m) {n : Int} {q : Nat × CellM} (hq : kget m.cells n = some q) : S[q.1]? = some (some (cellO q.2)) := h.cell _ (kget_mem hq)
theorem c_lines {j : Nat} {c : CellM} (h : S[j]? = some (some (cellO c))) : gFld ["Cell"] "lines" (.ref j) S = .ok (.d (enc c.src)) S := fld_at h (.head _) rfl
theorem c_count {j : Nat} {c : CellM} (h : S[j]? = some (some (cellO c))) : gFld ["Cell"] "count" (.ref j) S = .ok (.d (.int c.count)) S := fld_at h (.head _) rfl
theorem c_struck {j : Nat} {c : CellM} (h : S[j]? = some (some (cellO c))) : gFld ["Cell"] "struck" (.ref j) S = .ok (.d (.bl c.struck)) S := fld_at h (.head _) rfl
theorem c_rcd {j : Nat} {c : CellM} (h : S[j]? = some (some (cellO c))) : gFld ["Cell"] "record" (.ref j) S = .ok (.d c.rcd) S := fld_at h (.head _) rfl
theorem w_cell (k : Nat) (h : NbAt S m) {n : Int} {q : Nat × CellM} (hq : kget m.cells n = some q) (h0 : 0 ≤ n) (h1 : n ≤ m.after) : (F (k + 2)).Notebook_look_cell [.ref m.b, .d (.int n)] S = .ok (.d .non) S := by
  rw [F_Notebook_look_cell]
  refine z_Tn rfl (z_ifF (S1 := S) (z_orF (S1 := S) (z_bnot (b := true) (z_truB (z_call (z_cons rfl (z_cons rfl (z_cons (z_e1 rfl (n_after h)) z_nil))) ?_))) (z_val (z_e2' rfl (z_e1 rfl (n_cells h)) ?_))) rfl) (trim_same S)
  · rw [w_within, decide_eq_true h0, decide_eq_true h1]; rfl
  · rw [n_in h, hq]; rfl
theorem w_place (k : Nat) {p hi : Int} (x : Val) (h0 : 0 ≤ p) (h1 : p ≤ hi) : (F (k + 2)).Notebook_look_place [x, .d (.int p), .d (.int hi)] S = .ok (.d .non) S := by
  rw [F_Notebook_look_place]
  refine z_Tn rfl (z_ifF (S1 := S) (z_bnot (b := true) (z_truB (z_call (z_cons rfl (z_cons rfl (z_cons rfl z_nil))) ?_))) rfl) (trim_same S)
  rw [w_within, decide_eq_true h0, decide_eq_true h1]; rfl
theorem w_mkCell (k : Nat) (l : List Rw) : (F (k + 2)).mk_Cell [.d (enc l)] S = .ok (.ref S.length) (S ++ [some (cellO ⟨l, 0, false, .non⟩)]) := by
  rw [F_mk_Cell]
  unfold mkVF
  have h : (F (k + 1)).Cell_init [.ref S.length, .d (enc l)] (S ++ [some (.ins "Cell" [])]) = .ok (.d .non) (S ++ [some (cellO ⟨l, 0, false, .non⟩)]) := by
    rw [F_Cell_init]
    refine z_An (e1 := [some (.ref S.length), some (.d (enc l))]) rfl (z_seq (z_fput rfl rfl (fput_at get_last (.head _) (by decide))) ?_)
    rw [set_last]
    refine z_seq (z_fput rfl rfl (fput_at get_last (.head _) (Nat.lt_of_le_of_lt (Nat.le_of_ble_eq_true rfl : _ ≤ 10) (by decide)))) ?_
    rw [set_last]
    refine z_seq (z_fput rfl rfl (fput_at get_last (.head _) (Nat.lt_of_le_of_lt (Nat.le_of_ble_eq_true rfl : _ ≤ 10) (by decide)))) ?_
    rw [set_last]
    refine (z_fput rfl rfl (fput_at get_last (.head _) (Nat.lt_of_le_of_lt (Nat.le_of_ble_eq_true rfl : _ ≤ 10) (by decide)))).trans ?_
    rw [set_last]; rfl
  show rbind ((F (k + 1)).Cell_init [.ref S.length, .d (enc l)] (S ++ [some (.ins "Cell" [])])) _ = _
  rw [h]; rfl
theorem w_mkNotebook (k : Nat) : (F (k + 2)).mk_Notebook [] S = .ok (.ref S.length) (S ++ [some (.ins "Notebook" [("cells", .ref (S.length + 1)), ("row", .ref (S.length + 2)), ("after", .d (.int 0))]), some (.dct []), some (.lst [])]) := by
  rw [F_mk_Notebook]
  unfold mkVF
  have h : (F (k + 1)).Notebook_init [.ref S.length] (S ++ [some (.ins "Notebook" [])]) = .ok (.d .non) (S ++ [some (.ins "Notebook" [("cells", .ref (S.length + 1)), ("row", .ref (S.length + 2)), ("after", .d (.int 0))]), some (.dct []), some (.lst [])]) := by
    rw [F_Notebook_init]
    refine z_An (e1 := [some (.ref S.length)]) rfl (z_seq (z_fput z_dct0 rfl (fput_at (l := []) (C := "Notebook") (by rw [app_snoc]; exact get_mid) (.head _) (by decide))) ?_)
    rw [app_snoc]
    dsimp only [List.singleton_append]
    rw [set_mid]
    refine z_seq (z_fput z_lst0 rfl (fput_at (l := [(("cells" : Str), _)]) (C := "Notebook") (by rw [app_snoc]; exact get_mid) (.head _) (Nat.lt_of_le_of_lt (Nat.le_of_ble_eq_true rfl : _ ≤ 10) (by decide)))) ?_
    rw [app_snoc]
    dsimp only [List.cons_append, List.nil_append]
    rw [set_mid]
    refine (z_fput rfl rfl (fput_at get_mid (.head _) (Nat.lt_of_le_of_lt (Nat.le_of_ble_eq_true rfl : _ ≤ 10) (by decide)))).trans ?_
    rw [set_mid]
    simp only [List.length_append, List.length_cons, List.length_nil]
    rfl
  show rbind ((F (k + 1)).Notebook_init [.ref S.length] (S ++ [some (.ins "Notebook" [])])) _ = _
  rw [h]; rfl
/-- a notebook just made -/
def newNb (b : Nat) : NbM := ⟨b, b + 1, b + 2, 0, [], []⟩
theorem newNb_at : NbAt (S ++ [some (.ins "Notebook" [("cells", .ref (S.length + 1)), ("row", .ref (S.length + 2)), ("after", .d (.int 0))]), some (.dct []), some (.lst [])]) (newNb S.length) :=
  ⟨get_mid, by show (S ++ _)[S.length + 1]? = _; rw [List.getElem?_append_right (by omega)]; simp [NbM.dct, newNb], by show (S ++ _)[S.length + 2]? = _; rw [List.getElem?_append_right (by omega)]; simp [nums, newNb], fun p hp => (by cases hp), .nil⟩
theorem newNb_ok (b : Nat) : NbOk (newNb b) := ⟨.nil, fun p hp => (by cases hp), .nil, fun n => Iff.rfl, Nat.zero_le _, fun p hp => (by cases hp), Int.le_refl _⟩
/-- a cell put -/
def NbM.put (m : NbM) (p : Nat) (l : List Rw) (i : Nat) : NbM := { m with after := m.after + 1, cells := m.cells ++ [(m.after, i, ⟨l, 0, false, .non⟩)], row := m.row.take p ++ [m.after] ++ m.row.drop p }
theorem NbOk.new (o : NbOk m) : m.after ∉ m.cells.map (·.1) := fun h => by
  obtain ⟨p, hp, e⟩ := List.mem_map.mp h
  have := (o.low p hp).2
  omega
theorem w_put (k : Nat) (h : NbAt S m) (o : NbOk m) {p : Nat} {l : List Rw} (hp : p ≤ m.row.length) (hl : okSrc l) (h30 : m.row.length < 30) (hk : 12 ≤ k) :
    ∃ S', (F k).Notebook_put [.ref m.b, .d (.int p), .d (enc l)] S = .ok (.d (.int m.after)) S' ∧ NbAt S' (m.put p l S.length) ∧ Kept [m.b, m.c, m.r] S S' ∧ S'.length = S.length + 1 := by
  obtain ⟨n, rfl⟩ : ∃ n, k = n + 3 := ⟨k - 3, by omega⟩
  let S1 := S.set m.b (some (.ins "Notebook" [("cells", .ref m.c), ("row", .ref m.r), ("after", .d (.int (m.after + 1)))]))
  let S2 := S1 ++ [some (cellO ⟨l, 0, false, .non⟩)]
  let S3 := S2.set m.c (some (.dct (m.dct ++ [(Sum.inl m.after, .ref S.length)])))
  let S4 := S3.set m.r (some (.lst (nums (m.put p l S.length).row)))
  have lb := h.lt m.b (.head _)
  have lc := h.lt m.c (.tail _ (.head _))
  have lr := h.lt m.r (.tail _ (.tail _ (.head _)))
  have l1 : S1.length = S.length := by simp [S1]
  have l2 : S2.length = S.length + 1 := by simp [S2, l1]
  have l3 : S3.length = S.length + 1 := by simp [S3, l2]
  have l4 : S4.length = S.length + 1 := by simp [S4, l3]
  have g1 : ∀ {i}, i ≠ m.b → S1[i]? = S[i]? := fun n => get_set_ne n.symm
  have g2 : ∀ {i}, i < S.length → i ≠ m.b → S2[i]? = S[i]? := fun hi n => (get_app (by rw [l1]; exact hi)).trans (g1 n)
  have g3 : ∀ {i}, i < S.length → i ≠ m.b → i ≠ m.c → S3[i]? = S[i]? := fun hi n n' => (get_set_ne n'.symm).trans (g2 hi n)
  have g4 : ∀ {i}, i < S.length → i ≠ m.b → i ≠ m.c → i ≠ m.r → S4[i]? = S[i]? := fun hi n n' n'' => (get_set_ne n''.symm).trans (g3 hi n n')
  have b1 : S1[m.b]? = some (some (.ins "Notebook" [("cells", .ref m.c), ("row", .ref m.r), ("after", .d (.int (m.after + 1)))])) := get_set_same lb
  have b4 : S4[m.b]? = some (some (.ins "Notebook" [("cells", .ref m.c), ("row", .ref m.r), ("after", .d (.int (m.after + 1)))])) := by
    rw [get_set_ne h.br.symm, get_set_ne h.bc.symm, get_app (by rw [l1]; exact lb)]; exact b1
  have b3 : S3[m.b]? = some (some (.ins "Notebook" [("cells", .ref m.c), ("row", .ref m.r), ("after", .d (.int (m.after + 1)))])) := by
    rw [get_set_ne h.bc.symm, get_app (by rw [l1]; exact lb)]; exact b1
  have b2 : S2[m.b]? = some (some (.ins "Notebook" [("cells", .ref m.c), ("row", .ref m.r), ("after", .d (.int (m.after + 1)))])) := by
    rw [get_app (by rw [l1]; exact lb)]; exact b1
  have c2 : S2[m.c]? = some (some (.dct m.dct)) := (g2 lc h.bc.symm).trans h.dct
  have r3 : S3[m.r]? = some (some (.lst (nums m.row))) := (g3 lr h.br.symm h.cr.symm).trans h.lst
  have nl : (nums m.row).length = m.row.length := List.length_map ..
  have nk : Sum.inl m.after ∉ m.dct.map (·.1) := fun hm => by
    unfold NbM.dct at hm
    rw [List.map_map] at hm
    obtain ⟨q, hq, e⟩ := List.mem_map.mp hm
    exact o.new (List.mem_map.mpr ⟨q, hq, Sum.inl.inj e⟩)
  refine ⟨S4, ?_, ⟨b4, ?_, get_set_same (by rw [l3]; omega), fun q hq => ?_, ?_⟩, ⟨by omega, fun i hi n => ?_⟩, l4⟩
  · rw [F_Notebook_put]
    have len0 : gLen (.ref m.r) S = .ok (.d (.int (m.row.length : Nat))) S := by rw [len_ref h.lst, nl]
    refine z_A rfl (z_seq (S1 := S) (z_drop (z_meth rfl (n_isIns h _ rfl) (z_cons rfl (z_cons (z_e1 (z_e1 rfl (n_row h)) len0) z_nil)) (w_place n _ (by omega) (by omega)))) (z_seq (S1 := S) (z_drop (z_call (z_cons rfl z_nil) (w_look _ S hl (by omega)))) (z_seq (S1 := S) (z_ifF (S1 := S) (z_val (z_e2 (z_e1 (z_e1 rfl (n_row h)) len0) rfl (eq_int.trans (by rw [decide_eq_false (by omega)])))) rfl)
      (z_seq (S1 := S) (z_asg (z_e1 rfl (n_after h))) (z_seq (S1 := S1) (z_faug rfl h.ins (.head _) rfl (Nat.lt_of_le_of_lt (Nat.le_of_ble_eq_true rfl : _ ≤ 10) (by decide)) rfl) (z_seq (e1 := [some (.ref m.b), some (.d (.int p)), some (.d (enc l)), some (.d (.int m.after))]) (S1 := S3) ?_ (z_seq (S1 := S4) (z_drop (x := .d .non) (z_mt (z_e1 rfl (fld_at b3 (.head _) rfl)) (by rw [lst_at r3]; rfl) (z_cons rfl (z_cons rfl z_nil)) ?_)) (z_ret rfl))))))))
    · have hc := w_mkCell (S := S1) n l
      rw [l1] at hc
      exact z_dput (z_call (z_cons rfl z_nil) hc) (z_e1 rfl (fld_at b2 (.head _) rfl)) rfl (by rw [dput_at c2 rfl (by
        have hc' : m.cells.length < 100000 := by rw [o.len]; omega
        unfold NbM.dct; rw [List.length_map]; exact hc'), kput_new nk])
    · unfold gInsert
      rw [cell_at r3]
      dsimp only [intOf]
      rw [if_pos ⟨by rw [nl]; omega, by omega, by omega⟩]
      have e : (nums m.row).take ((p : Int)).toNat ++ [.d (.int m.after)] ++ (nums m.row).drop ((p : Int)).toNat = nums (m.put p l S.length).row := by
        rw [Int.toNat_natCast]
        unfold nums NbM.put
        simp
      rw [e]; rfl
  · show S4[m.c]? = some (some (.dct (m.put p l S.length).dct))
    rw [get_set_ne h.cr.symm, get_set_same (by rw [l2]; omega)]
    unfold NbM.put NbM.dct
    simp
  · rcases List.mem_append.mp hq with hq | hq
    · have hi := lt_of (h.cell q hq)
      rw [g4 hi (h.pb hq) (h.pc hq) (h.pr hq)]
      exact h.cell q hq
    · rw [List.mem_singleton] at hq
      subst hq
      show S4[S.length]? = _
      rw [get_set_ne (by omega), get_set_ne (by omega)]
      show (S1 ++ [_])[S.length]? = _
      rw [← l1]
      exact get_last
  · show ((m.cells ++ [(m.after, S.length, (⟨l, 0, false, .non⟩ : CellM))]).map (·.2.1)).Nodup
    rw [List.map_append, List.nodup_append]
    refine ⟨h.inj, by simp, fun a ha b hb => ?_⟩
    obtain ⟨q, hq, rfl⟩ := List.mem_map.mp ha
    have hi := lt_of (h.cell q hq)
    simp at hb
    omega
  · exact g4 hi (fun e => n (by rw [e]; exact .head _)) (fun e => n (by rw [e]; exact .tail _ (.head _))) (fun e => n (by rw [e]; exact .tail _ (.tail _ (.head _))))
theorem put_ok (o : NbOk m) {p : Nat} {l : List Rw} {i : Nat} (hl : okSrc l) (h30 : m.row.length < 30) (hp : p ≤ m.row.length) : NbOk (m.put p l i) := by
  have hn : m.after ∉ m.row := fun h => o.new ((o.mem _).mp h)
  have hperm : (m.row.take p ++ [m.after] ++ m.row.drop p).Perm (m.after :: m.row) := by
    have h1 : (m.row.take p ++ [m.after] ++ m.row.drop p).Perm ([m.after] ++ m.row.take p ++ m.row.drop p) := List.Perm.append_right _ List.perm_append_comm
    simpa using h1
  refine ⟨?_, fun q hq => ?_, ?_, fun n => ?_, ?_, fun q hq => ?_, ?_⟩
  · show ((m.cells ++ [(m.after, i, (⟨l, 0, false, .non⟩ : CellM))]).map (·.1)).Nodup
    rw [List.map_append, List.nodup_append]
    refine ⟨o.key, by simp, fun a ha b hb => ?_⟩
    simp at hb
    subst hb
    exact fun e => o.new (e ▸ ha)
  · rcases List.mem_append.mp (show q ∈ m.cells ++ [(m.after, i, (⟨l, 0, false, .non⟩ : CellM))] from hq) with hq | hq
    · have := o.low q hq
      exact ⟨this.1, by show q.1 < m.after + 1; omega⟩
    · rw [List.mem_singleton] at hq
      subst hq
      exact ⟨o.pos, by show m.after < m.after + 1; omega⟩
  · exact hperm.nodup_iff.mpr (List.nodup_cons.mpr ⟨hn, o.nod⟩)
  · show n ∈ m.row.take p ++ [m.after] ++ m.row.drop p ↔ n ∈ (m.cells ++ [(m.after, i, (⟨l, 0, false, .non⟩ : CellM))]).map (·.1)
    rw [hperm.mem_iff, List.map_append, List.mem_append, List.mem_cons, o.mem]
    simp [or_comm]
  · show (m.row.take p ++ [m.after] ++ m.row.drop p).length ≤ 30
    rw [hperm.length_eq, List.length_cons]; omega
  · rcases List.mem_append.mp (show q ∈ m.cells ++ [(m.after, i, (⟨l, 0, false, .non⟩ : CellM))] from hq) with hq | hq
    · exact o.src q hq
    · rw [List.mem_singleton] at hq
      subst hq
      exact hl
  · show 0 ≤ m.after + 1
    have := o.pos
    omega
theorem w_putFull (k : Nat) (h : NbAt S m) {p : Nat} {l : List Rw} (hp : p ≤ m.row.length) (hl : okSrc l) (h30 : m.row.length = 30) (hk : 12 ≤ k) :
    (F k).Notebook_put [.ref m.b, .d (.int p), .d (enc l)] S = .exc ⟨"Full", none⟩ S := by
  obtain ⟨n, rfl⟩ : ∃ n, k = n + 3 := ⟨k - 3, by omega⟩
  rw [F_Notebook_put]
  have nl : (nums m.row).length = m.row.length := List.length_map ..
  have len0 : gLen (.ref m.r) S = .ok (.d (.int (m.row.length : Nat))) S := by rw [len_ref h.lst, nl]
  exact z_AX rfl (z_seq (S1 := S) (z_drop (z_meth rfl (n_isIns h _ rfl) (z_cons rfl (z_cons (z_e1 (z_e1 rfl (n_row h)) len0) z_nil)) (w_place n _ (by omega) (by omega)))) (z_seq (S1 := S) (z_drop (z_call (z_cons rfl z_nil) (w_look _ S hl (by omega)))) (z_seqX (z_ifT (S1 := S) (z_val (z_e2 (z_e1 (z_e1 rfl (n_row h)) len0) rfl (eq_int.trans (by rw [decide_eq_true (by omega)])))) rfl))))
end
section
variable {S : Store} {m : NbM}
theorem w_src (k : Nat) (h : NbAt S m) (o : NbOk m) {n : Int} {q : Nat × CellM} (hq : kget m.cells n = some q) : (F (k + 3)).Notebook_source [.ref m.b, .d (.int n)] S = .ok (.d (enc q.2.src)) S := by
  rw [F_Notebook_source]
  have hl := o.low _ (kget_mem hq)
  exact z_T rfl (z_seq (S1 := S) (z_drop (z_meth rfl (n_isIns h _ rfl) rfl (w_cell k h hq hl.1 (by omega)))) (z_ret (z_e1 (z_e2 (z_e1 rfl (n_cells h)) rfl (n_cell h hq)) (c_lines (n_has h hq))))) (trim_same S)
end
end Z
set_option Elab.async false
set_option linter.all false
set_option maxRecDepth 100000
set_option maxHeartbeats 4000000
namespace Z
open PySem L2 Evl NdefX LamX
/-! ## k14 -/
section
variable {S : Store} {m : NbM}
theorem w_version (k : Nat) (h : NbAt S m) (o : NbOk m) {n : Int} {q : Nat × CellM} (hq : kget m.cells n = some q) : (F (k + 3)).Notebook_version [.ref m.b, .d (.int n)] S = .ok (.d (.int q.2.count)) S := by
  rw [F_Notebook_version]
  have hl := o.low _ (kget_mem hq)
  exact z_T rfl (z_seq (S1 := S) (z_drop (z_meth rfl (n_isIns h _ rfl) rfl (w_cell k h hq hl.1 (by omega)))) (z_ret (z_e1 (z_e2 (z_e1 rfl (n_cells h)) rfl (n_cell h hq)) (c_count (n_has h hq))))) (trim_same S)
theorem w_new (k : Nat) (h : NbAt S m) (o : NbOk m) {n : Int} {q : Nat × CellM} (hq : kget m.cells n = some q) (hs : q.2.struck = false) (hr : q.2.rcd = .non) : (F (k + 3)).Notebook_state [.ref m.b, .d (.int n)] S = .ok (.d (.str "new")) S := by
  rw [F_Notebook_state]
  have hl := o.low _ (kget_mem hq)
  have c1 := c_struck (n_has h hq)
  have c2 := c_rcd (n_has h hq)
  rw [hs] at c1
  rw [hr] at c2
  exact z_T rfl (z_seq (S1 := S) (z_drop (z_meth rfl (n_isIns h _ rfl) rfl (w_cell k h hq hl.1 (by omega)))) (z_seq (S1 := S) (z_ifF (S1 := S) (z_truB (z_e1 (z_e2 (z_e1 rfl (n_cells h)) rfl (n_cell h hq)) c1)) rfl) (z_seqR (z_ifT (S1 := S) (z_val (z_e2 (z_e1 (z_e2 (z_e1 rfl (n_cells h)) rfl (n_cell h hq)) c2) rfl rfl)) (z_ret rfl))))) (trim_same S)
theorem w_holdsNew (k : Nat) (h : NbAt S m) (x : Val) {n : Int} {q : Nat × CellM} (hq : kget m.cells n = some q) (hr : q.2.rcd = .non) : (F (k + 1)).Notebook_holds [.ref m.b, .d (.int n), x] S = .ok (.d (.bl false)) S := by
  rw [F_Notebook_holds]
  have c2 := c_rcd (n_has h hq)
  rw [hr] at c2
  exact z_T rfl (z_seq (S1 := S) (z_asg (z_e1 (z_e2 (z_e1 rfl (n_cells h)) rfl (n_cell h hq)) c2)) (z_seqR (z_ifT (S1 := S) (z_orT (z_val (z_e2 rfl rfl rfl))) (z_ret rfl)))) (trim_same S)
end
section
variable {S : Store} {m : NbM}
theorem w_change (k : Nat) (h : NbAt S m) (o : NbOk m) {n : Int} {j : Nat} {c : CellM} {l : List Rw} (hc : kget m.cells n = some (j, c)) (hl : okSrc l) (h0 : 0 ≤ c.count) (h1 : c.count ≤ 1000000) (hk : 12 ≤ k) :
    (F k).Notebook_change [.ref m.b, .d (.int n), .d (.int c.count), .d (enc l)] S = .ok (.d (.int (c.count + 1))) (S.set j (some (cellO { c with src := l, count := c.count + 1 }))) := by
  obtain ⟨k, rfl⟩ : ∃ n, k = n + 3 := ⟨k - 3, by omega⟩
  rw [F_Notebook_change]
  have hlo := o.low _ (kget_mem hc)
  have hj := n_has h hc
  have lj := lt_of hj
  have hS := h.setc (c' := { c with src := l, count := c.count + 1 }) o.key hc
  have hj1 : (S.set j (some (cellO { c with src := l })))[j]? = some (some (cellO { c with src := l })) := get_set_same lj
  have hset : (S.set j (some (cellO { c with src := l }))).set j (some (cellO { c with src := l, count := c.count + 1 })) = S.set j (some (cellO { c with src := l, count := c.count + 1 })) := List.set_set ..
  have l10 : ∀ {α : Type} {l : List α}, l.length ≤ 10 → l.length < 1000 := fun h => Nat.lt_of_le_of_lt h (by decide)
  have a1 : (F (k + 2)).is_within [.d (.int c.count), .d (.int 0), .d (.int 1000000)] S = .ok (.d (.bl true)) S := by rw [w_within, decide_eq_true h0, decide_eq_true h1]; rfl
  refine z_T (S1 := S.set j (some (cellO { c with src := l, count := c.count + 1 }))) rfl (z_seq (S1 := S) (z_drop (z_meth rfl (n_isIns h _ rfl) rfl (w_cell k h hc hlo.1 (by omega)))) (z_seq (S1 := S) (z_ifF (S1 := S) (z_bnot (b := true) (z_truB (z_call rfl a1))) rfl) (z_seq (S1 := S) (z_drop (z_call rfl (w_look (k + 2) S hl (by omega)))) (z_seq (e1 := [some (.ref m.b), some (.d (.int n)), some (.d (.int c.count)), some (.d (enc l)), some (.ref j)]) (S1 := S) (z_asg (z_e2 (z_e1 rfl (n_cells h)) rfl (n_cell h hc))) (z_seq (S1 := S) (z_ifF (S1 := S) (z_val (z_e2 rfl (z_e1 rfl (c_count hj)) (ne_int.trans (by rw [decide_eq_true rfl]; rfl)))) rfl) (z_seq (S1 := S.set j (some (cellO { c with src := l }))) (z_fput rfl rfl ?_) (z_seq (e1 := [some (.ref m.b), some (.d (.int n)), some (.d (.int c.count)), some (.d (enc l)), some (.ref j)]) (S1 := S.set j (some (cellO { c with src := l, count := c.count + 1 }))) ?_ (z_ret (z_e1 rfl (c_count (c := { c with src := l, count := c.count + 1 }) (get_set_same lj))))))))))) ?_
  · rw [fput_at hj (.head _) (l10 (Nat.le_of_ble_eq_true rfl))]; rfl
  · rw [← hset]; exact z_faug rfl hj1 (.head _) rfl (l10 (Nat.le_of_ble_eq_true rfl)) rfl
  · exact trim_nb0 hS (by simp) fun i _ hi => get_set_ne fun e => hi (by rw [setc_foot, ← e]; exact .tail _ (.tail _ (.tail _ (List.mem_map.mpr ⟨_, kget_mem hc, rfl⟩))))
end
section
variable {S : Store} {m : NbM}
theorem w_behind (k : Nat) (h : NbAt S m) (o : NbOk m) {n v : Int} {j : Nat} {c : CellM} {l : List Rw} (hc : kget m.cells n = some (j, c)) (hl : okSrc l) (h0 : 0 ≤ v) (h1 : v ≤ 1000000) (hv : v ≠ c.count) (hk : 12 ≤ k) :
    (F k).Notebook_change [.ref m.b, .d (.int n), .d (.int v), .d (enc l)] S = .exc ⟨"Behind", none⟩ S := by
  obtain ⟨k, rfl⟩ : ∃ n, k = n + 3 := ⟨k - 3, by omega⟩
  rw [F_Notebook_change]
  have hlo := o.low _ (kget_mem hc)
  have hj := n_has h hc
  have a1 : (F (k + 2)).is_within [.d (.int v), .d (.int 0), .d (.int 1000000)] S = .ok (.d (.bl true)) S := by rw [w_within, decide_eq_true h0, decide_eq_true h1]; rfl
  exact z_TX (S1 := S) (e1 := [some (.ref m.b), some (.d (.int n)), some (.d (.int v)), some (.d (enc l)), some (.ref j)]) rfl (z_seq (S1 := S) (z_drop (z_meth rfl (n_isIns h _ rfl) rfl (w_cell k h hc hlo.1 (by omega)))) (z_seq (S1 := S) (z_ifF (S1 := S) (z_bnot (b := true) (z_truB (z_call rfl a1))) rfl) (z_seq (S1 := S) (z_drop (z_call rfl (w_look (k + 2) S hl (by omega)))) (z_seq (e1 := [some (.ref m.b), some (.d (.int n)), some (.d (.int v)), some (.d (enc l)), some (.ref j)]) (S1 := S) (z_asg (z_e2 (z_e1 rfl (n_cells h)) rfl (n_cell h hc))) (z_seqX (z_ifT (S1 := S) (z_val (z_e2 rfl (z_e1 rfl (c_count hj)) (ne_int.trans (by rw [decide_eq_false hv]; rfl)))) rfl)))))) (trim_same S)
theorem w_freshNew (k : Nat) (h : NbAt S m) (o : NbOk m) (hs : ∀ p ∈ m.cells, p.2.2.struck = false ∧ p.2.2.rcd = .non) : (F (k + 2)).Notebook_fresh [.ref m.b] S = .ok (.d (.lst [])) S := by
  rw [F_Notebook_fresh]
  have k1 : Kept [] S (S ++ [some (.lst [])]) := ⟨by simp, fun i hi _ => get_app hi⟩
  have h1 := h.frame k1 (fun _ _ z => by cases z)
  have loop := for_inv (body := sIf (bAnd (bNot (bTruth (e1 (gFld ["Cell"] "struck") (e2 gSub (e1 (gFld ["Notebook"] "cells") (eVar 0)) (eVar 2))))) (bTruth (eMeth "Notebook" "holds" (F (k + 1)).Notebook_holds (eVar 0) (aCons (eVar 2) (aCons (eVar 1) aNil))))) (sDrop (eMt gAppend (eVar 1) (aCons (eVar 2) aNil))) (fun e S => .nx e S)) (tg := gN 2)
    (fun _ (e : Envr) (T : Store) => T = S ++ [some (.lst [])] ∧ ∃ x, e = [some (.ref m.b), some (.ref S.length), x]) (e := [some (.ref m.b), some (.ref S.length), none]) (iAny_ref (f := e1 (gFld ["Notebook"] "row") (eVar 0)) (z_e1 (x := .ref m.b) (S1 := S ++ [some (.lst [])]) rfl (n_row h1)) h1.lst) (fun i e T hI => by rw [hI.1]; exact h1.lst) ⟨rfl, none, rfl⟩ (by
    rintro j x e T hx ⟨rfl, y, rfl⟩
    have hx' := List.mem_of_getElem? hx
    obtain ⟨n, hn, rfl⟩ := List.mem_map.mp hx'
    obtain ⟨p, hp, rfl⟩ := List.mem_map.mp ((o.mem n).mp hn)
    have hq : kget m.cells p.1 = some p.2 := kget_of o.key hp
    have hst := hs p hp
    have c1 := c_struck (n_has h1 hq)
    rw [hst.1] at c1
    exact ⟨_, rfl, _, _, .inl (z_ifF (S1 := S ++ [some (.lst [])]) (z_andT (S1 := S ++ [some (.lst [])]) (z_bnot (b := false) (z_truB (z_e1 (z_e2 (z_e1 rfl (n_cells h1)) rfl (n_cell h1 hq)) c1))) (z_truB (z_meth rfl (n_isIns h1 _ rfl) rfl (w_holdsNew k h1 _ hq hst.2)))) rfl), rfl, _, rfl⟩)
  obtain ⟨e', S', hf, rfl, x, rfl⟩ := loop
  refine z_TR (i := S.length) (c := .lst []) (y := .lst []) rfl (z_seq (S1 := S ++ [some (.lst [])]) (e1 := [some (.ref m.b), some (.ref S.length), none]) rfl (z_seq hf (z_ret rfl))) (Nat.le_refl _) (by simp) rfl ?_
  rw [List.set_append_right _ _ (Nat.le_refl _), Nat.sub_self]
  exact trim_junk S [none]
end
end Z
set_option Elab.async false
set_option linter.all false
set_option maxRecDepth 100000
set_option maxHeartbeats 4000000
namespace Z
open PySem L2 Evl NdefX LamX
section
variable {S : Store}
theorem w_scr (k : Nat) {ns : List Int} (i : Nat) : (F (k + 1)).law_cell [.d (.scr ns), .d (.int i)] S = .ok (.d (.int (cellI ns i))) S := by
  rw [F_law_cell]
  by_cases h : i < ns.length
  · exact z_T rfl (z_seqR (z_ifT (S1 := S) (z_val (z_e2 rfl (z_e1 rfl rfl) (by show Res.ok (Val.d (.bl (decide ((i : Int) < ns.length)))) S = _; rw [decide_eq_true (by omega)]))) (z_ret (z_e2 rfl rfl (scr_at h))))) (trim_same S)
  · have e : cellI ns i = 0 := by unfold cellI; rw [List.getD_eq_getElem?_getD, List.getElem?_eq_none (by omega)]; rfl
    rw [e]
    exact z_T rfl (z_seq (S1 := S) (z_ifF (S1 := S) (z_val (z_e2 rfl (z_e1 rfl rfl) (by show Res.ok (Val.d (.bl (decide ((i : Int) < ns.length)))) S = _; rw [decide_eq_false (by omega)]))) rfl) (z_ret rfl)) (trim_same S)
end
section
variable {S : Store} {m : NbM}
theorem put_get (o : NbOk m) {p : Nat} {l : List Rw} {i : Nat} {n : Int} : kget (m.put p l i).cells n = if n = m.after then some (i, ⟨l, 0, false, .non⟩) else kget m.cells n := by
  show kget (m.cells ++ [(m.after, i, (⟨l, 0, false, .non⟩ : CellM))]) n = _
  have hn := o.new
  revert hn
  generalize m.cells = cs
  induction cs with
  | nil =>
    intro _
    unfold kget
    by_cases e : m.after = n
    · simp [e]
    · have : ¬ n = m.after := fun z => e z.symm
      simp [e, this, kget]
  | cons a r ih =>
    intro hn
    rw [List.map_cons, List.mem_cons, not_or] at hn
    rw [List.cons_append]
    unfold kget
    by_cases e : a.1 = n
    · rw [if_pos e, if_pos e, if_neg (fun z => hn.1 (by rw [← z, e]))]
    · rw [if_neg e, if_neg e]; exact ih hn.2
end
/-! ## the law k14 -/
theorem z_AE {np N : Nat} {body : SF} {xs : List Val} {x : Val} {S : Store} (hl : xs.length = np) (h : ∃ S1, body (xs.map some ++ List.replicate (N - np) none) S = .rt x S1 ∧ True) : ∃ S1, fnA np N body xs S = .ok x S1 := by
  obtain ⟨S1, a, _⟩ := h
  exact ⟨S1, z_A hl a⟩
def many14 (ns : List Int) : Nat := (1 + cellI ns 0 % 6).toNat
theorem many14_le (ns : List Int) : 1 ≤ many14 ns ∧ many14 ns ≤ 6 := by unfold many14; omega
theorem many14_eq (ns : List Int) : 1 + cellI ns 0 % 6 = (many14 ns : Nat) := by unfold many14; omega
def src14 (ns : List Int) (k : Nat) : List Rw := lawSource (lawSeed (cellI ns 1) k)
/-- what the loop of puts keeps: the notebook's cells are 0 .. j - 1, new -/
structure J14 (ns : List Int) (j : Nat) (S : Store) (m : NbM) : Prop where
  nb : NbAt S m
  ok : NbOk m
  b : m.b = 0
  a : m.after = j
  l : m.row.length = j
  new : ∀ p ∈ m.cells, p.2.2.struck = false ∧ p.2.2.rcd = .non
  has : ∀ n : Nat, n < j → ∃ i, kget m.cells (n : Int) = some (i, ⟨src14 ns n, 0, false, .non⟩)
theorem J14.step {ns : List Int} {j : Nat} {S : Store} {m : NbM} (k : Nat) (I : J14 ns j S m) (hj : j < 6) (hk : 12 ≤ k) : ∃ S', (F k).Notebook_put [.ref 0, .d (.int (j : Nat)), .d (enc (src14 ns j))] S = .ok (.d (.int (j : Nat))) S' ∧ J14 ns (j + 1) S' (m.put j (src14 ns j) S.length) ∧ Kept [m.b, m.c, m.r] S S' ∧ S'.length = S.length + 1 := by
  have hs : okSrc (src14 ns j) := ok_lawSource _
  obtain ⟨S', c1, c2, c3, c4⟩ := w_put k I.nb I.ok (p := j) (l := src14 ns j) (by rw [I.l]; exact Nat.le_refl _) hs (by rw [I.l]; omega) hk
  rw [I.b, I.a] at c1
  refine ⟨S', c1, ⟨c2, put_ok I.ok hs (by rw [I.l]; omega) (by rw [I.l]; exact Nat.le_refl _), I.b, ?_, ?_, ?_, ?_⟩, c3, c4⟩
  · show m.after + 1 = ((j + 1 : Nat) : Int); rw [I.a]; omega
  · show (m.row.take j ++ [m.after] ++ m.row.drop j).length = _
    simp only [List.length_append, List.length_take, List.length_drop, List.length_cons, List.length_nil, I.l]
    omega
  · intro p hp
    rcases List.mem_append.mp (show p ∈ m.cells ++ [_] from hp) with h | h
    · exact I.new _ h
    · rw [List.mem_singleton] at h; rw [h]; exact ⟨rfl, rfl⟩
  · intro n hn
    rw [put_get I.ok, I.a]
    by_cases e : n = j
    · rw [e, if_pos rfl]; exact ⟨_, rfl⟩
    · rw [if_neg (by omega)]; exact I.has n (by omega)
/-- what the second loop keeps; hs: the two hands' lists; places: pv versions, ps sources, pq seen, ph the hands -/
structure I14 (ns : List Int) (j : Nat) (S : Store) (m : NbM) (vs : List Int) (ss : List (List Rw)) (hs : Bool → List Int) (pv ps pq : Nat) (ph : Bool → Nat) : Prop where
  nb : NbAt S m
  ok : NbOk m
  b : m.b = 0
  new : ∀ p ∈ m.cells, p.2.2.struck = false ∧ p.2.2.rcd = .non
  lv : vs.length = many14 ns
  ls : ss.length = many14 ns
  lh : ∀ b, (hs b).length = many14 ns
  has : ∀ n : Nat, n < many14 ns → ∃ i v s, vs[n]? = some v ∧ ss[n]? = some s ∧ okSrc s ∧ kget m.cells (n : Int) = some (i, ⟨s, v, false, .non⟩)
  few : ∀ v ∈ vs, 0 ≤ v ∧ v ≤ j
  fh : ∀ b, ∀ v ∈ hs b, 0 ≤ v ∧ v ≤ j
  cv : S[pv]? = some (some (.lst (nums vs)))
  cs : S[ps]? = some (some (.lst (ss.map fun s => .d (enc s))))
  cq : S[pq]? = some (some (.lst [.ref (ph false), .ref (ph true)]))
  ch : ∀ b, S[ph b]? = some (some (.lst (nums (hs b))))
  ne : ([pv, ps, pq, ph false, ph true] ++ m.foot).Nodup
theorem range_nums {vs : List Int} {n : Nat} (h : vs.length = n) : (rangeV 0 n).map (fun x => match x with | .d (.int i) => Val.d (.int (vs.getD i.toNat 0)) | _ => .d .non) = nums vs := by
  unfold rangeV nums
  rw [List.map_map]
  refine List.ext_getElem (by simp [h]) fun i h1 h2 => ?_
  simp only [List.getElem_map, List.getElem_range, Function.comp]
  have : i < vs.length := by simpa using h2
  rw [show ((0 : Int) + (i : Nat)).toNat = i by omega, List.getD_eq_getElem?_getD, List.getElem?_eq_getElem this]; rfl
theorem compF_all {it : IF} {tg : GF} {ef : EF} {own : List Nat} {e : Envr} {S : Store} {l : List Val} {g : Option Nat} {Fv : Val → Val} (hi : it e S = .ok (l, g) S) (hg : gd g l S) (hl : l.length ≤ 100000) (h : ∀ x ∈ l, ∃ e1, tg x (wipeE e own) = some e1 ∧ ef e1 S = .ok (Fv x) S) : compF it tg tYesF ef own e S = .ok (l.map Fv) S := by
  rw [comp_pure (P := fun _ => true) (Fv := Fv) hi hg hl fun x m => by
    obtain ⟨e1, a, b⟩ := h x m
    exact ⟨e1, a, rfl, fun _ => b⟩, List.filter_eq_self.mpr (fun _ _ => rfl)]
section
variable {ns : List Int} {j : Nat} {S : Store} {m : NbM} {vs : List Int} {ss : List (List Rw)} {hs : Bool → List Int} {pv ps pq : Nat} {ph : Bool → Nat}
theorem I14.versions (k : Nat) (I : I14 ns j S m vs ss hs pv ps pq ph) {x0 x3 x4 x5 x6 x7 x8 x9 x10 x11 x12 x13 : Option Val} :
    compF (iRange1 (eVar 2)) (gN 10) tYesF (eMeth "Notebook" "version" (F (k + 3)).Notebook_version (eVar 1) (aCons (eVar 10) aNil)) [10] [x0, some (.ref 0), some (.d (.int (many14 ns : Nat))), x3, x4, x5, x6, x7, x8, x9, x10, x11, x12, x13] S = .ok (nums vs) S := by
  have hm := many14_le ns
  rw [← range_nums I.lv]
  refine compF_all (g := none) (iRange1_n rfl (by omega)) trivial (by rw [rangeV_len]; omega) fun x hx => ?_
  obtain ⟨i, hi, rfl⟩ := List.mem_map.mp hx
  rw [List.mem_range] at hi
  obtain ⟨a, v, s, h1, h2, h3, h4⟩ := I.has i hi
  have e0 : (0 : Int) + (i : Nat) = (i : Nat) := by omega
  refine ⟨_, rfl, ?_⟩
  dsimp only
  rw [e0, Int.toNat_natCast, List.getD_eq_getElem?_getD, h1]
  have n1 := n_isIns I.nb "version" rfl
  have c1 := w_version k I.nb I.ok h4
  rw [I.b] at n1 c1
  exact z_meth rfl n1 (z_cons rfl z_nil) c1
end
section
theorem range_map {α : Type} {f : α → Val} {l : List α} {n : Nat} (h : l.length = n) : (rangeV 0 n).map (fun x => match x with | .d (.int i) => (match l[i.toNat]? with | some a => f a | none => .d .non) | _ => .d .non) = l.map f := by
  unfold rangeV
  rw [List.map_map]
  refine List.ext_getElem (by simp [h]) fun i h1 h2 => ?_
  simp only [List.getElem_map, List.getElem_range, Function.comp]
  have : i < l.length := by simpa using h2
  rw [show ((0 : Int) + (i : Nat)).toNat = i by omega, List.getElem?_eq_getElem this]
variable {ns : List Int} {j : Nat} {S : Store} {m : NbM} {vs : List Int} {ss : List (List Rw)} {hs : Bool → List Int} {pv ps pq : Nat} {ph : Bool → Nat}
theorem I14.sources (k : Nat) (I : I14 ns j S m vs ss hs pv ps pq ph) {x0 x3 x4 x5 x6 x7 x8 x9 x10 x11 x12 x13 : Option Val} :
    compF (iRange1 (eVar 2)) (gN 10) tYesF (eMeth "Notebook" "source" (F (k + 3)).Notebook_source (eVar 1) (aCons (eVar 10) aNil)) [10] [x0, some (.ref 0), some (.d (.int (many14 ns : Nat))), x3, x4, x5, x6, x7, x8, x9, x10, x11, x12, x13] S = .ok (ss.map fun s => .d (enc s)) S := by
  have hm := many14_le ns
  rw [← range_map (f := fun s => Val.d (enc s)) I.ls]
  refine compF_all (g := none) (iRange1_n rfl (by omega)) trivial (by rw [rangeV_len]; omega) fun x hx => ?_
  obtain ⟨i, hi, rfl⟩ := List.mem_map.mp hx
  rw [List.mem_range] at hi
  obtain ⟨a, v, s, h1, h2, h3, h4⟩ := I.has i hi
  have e0 : (0 : Int) + (i : Nat) = (i : Nat) := by omega
  refine ⟨_, rfl, ?_⟩
  dsimp only
  rw [e0, Int.toNat_natCast, h2]
  have n1 := n_isIns I.nb "source" rfl
  have c1 := w_src k I.nb I.ok h4
  rw [I.b] at n1 c1
  exact z_meth rfl n1 (z_cons rfl z_nil) c1
theorem I14.states (k : Nat) (I : I14 ns j S m vs ss hs pv ps pq ph) {x0 x3 x4 x5 x6 x7 x8 x9 x10 x11 x12 x13 : Option Val} :
    compF (iRange1 (eVar 2)) (gN 10) tYesF (eMeth "Notebook" "state" (F (k + 3)).Notebook_state (eVar 1) (aCons (eVar 10) aNil)) [10] [x0, some (.ref 0), some (.d (.int (many14 ns : Nat))), x3, x4, x5, x6, x7, x8, x9, x10, x11, x12, x13] S = .ok ((List.replicate (many14 ns) (.str "new")).map .d) S := by
  have hm := many14_le ns
  rw [← range_map (f := Val.d) (l := List.replicate (many14 ns) (.str "new")) List.length_replicate]
  refine compF_all (g := none) (iRange1_n rfl (by omega)) trivial (by rw [rangeV_len]; omega) fun x hx => ?_
  obtain ⟨i, hi, rfl⟩ := List.mem_map.mp hx
  rw [List.mem_range] at hi
  obtain ⟨a, v, s, h1, h2, h3, h4⟩ := I.has i hi
  have e0 : (0 : Int) + (i : Nat) = (i : Nat) := by omega
  refine ⟨_, rfl, ?_⟩
  dsimp only
  rw [e0, Int.toNat_natCast, List.getElem?_replicate, if_pos hi]
  have n1 := n_isIns I.nb "state" rfl
  have c1 := w_new k I.nb I.ok h4 rfl rfl
  rw [I.b] at n1 c1
  exact z_meth rfl n1 (z_cons rfl z_nil) c1
end
section
variable {ns : List Int} {j : Nat} {S S' : Store} {m : NbM} {vs : List Int} {ss : List (List Rw)} {hs : Bool → List Int} {pv ps pq : Nat} {ph : Bool → Nat}
theorem I14.up (I : I14 ns j S m vs ss hs pv ps pq ph) (h : ∀ i, i < S.length → S'[i]? = S[i]?) (hl : S.length ≤ S'.length) : I14 ns j S' m vs ss hs pv ps pq ph := by
  have t : ∀ {i o}, S[i]? = some o → S'[i]? = some o := fun e => (h _ (lt_of e)).trans e
  exact { I with nb := I.nb.frame (f := []) ⟨hl, fun i hi _ => h i hi⟩ (fun _ _ z => by cases z), cv := t I.cv, cs := t I.cs, cq := t I.cq, ch := fun b => t (I.ch b) }
theorem I14.next (I : I14 ns j S m vs ss hs pv ps pq ph) : I14 ns (j + 1) S m vs ss hs pv ps pq ph :=
  { I with few := fun v h => by have := I.few v h; omega, fh := fun b v h => by have := I.fh b v h; omega }
end
section
variable {ns : List Int} {j : Nat} {S S' : Store} {m : NbM} {vs : List Int} {ss : List (List Rw)} {hs : Bool → List Int} {pv ps pq : Nat} {ph : Bool → Nat}
theorem I14.see (I : I14 ns j S m vs ss hs pv ps pq ph) (b : Bool) : I14 ns j ((S ++ [some (Cell.lst (nums vs))]).set pq (some (Cell.lst [.ref (if false = b then S.length else ph false), .ref (if true = b then S.length else ph true)]))) m vs ss (fun x => if x = b then vs else hs x) pv ps pq (fun x => if x = b then S.length else ph x) := by
  have hne := I.ne
  have lf : ∀ i ∈ m.foot, i < S.length := I.nb.lt
  have lq := lt_of I.cq
  have lv := lt_of I.cv
  have ls := lt_of I.cs
  have l0 := lt_of (I.ch false)
  have l1 := lt_of (I.ch true)
  rw [List.nodup_append] at hne
  obtain ⟨n1, n2, n3⟩ := hne
  simp only [List.nodup_cons, List.mem_cons, List.not_mem_nil, or_false, not_or, List.nodup_nil, and_true, not_false_eq_true] at n1
  have t : ∀ {i}, i < S.length → i ≠ pq → ((S ++ [some (Cell.lst (nums vs))]).set pq (some (Cell.lst [.ref (if false = b then S.length else ph false), .ref (if true = b then S.length else ph true)])))[i]? = S[i]? := fun hi n => (get_set_ne n.symm).trans (get_app hi)
  have tl : ((S ++ [some (Cell.lst (nums vs))]).set pq (some (Cell.lst [.ref (if false = b then S.length else ph false), .ref (if true = b then S.length else ph true)])))[S.length]? = some (some (.lst (nums vs))) := (get_set_ne (by omega)).trans get_last
  have hfq : pq ∉ m.foot := fun h => n3 pq (by simp) pq h rfl
  refine { I with nb := I.nb.frame (f := [pq]) ⟨by simp, fun i hi h => t hi (by simpa using h)⟩ (fun i hi h => hfq (by rw [List.mem_singleton] at h; rw [← h]; exact hi)), lh := ?_, fh := ?_, cv := (t lv (by omega)).trans I.cv, cs := (t ls (by omega)).trans I.cs, cq := ?_, ch := ?_, ne := ?_ }
  · intro x; split
    · exact I.lv
    · exact I.lh x
  · intro x; split
    · exact I.few
    · exact I.fh x
  · exact get_set_same (by rw [List.length_append]; omega)
  · intro x
    by_cases e : x = b
    · have e1 : (if x = b then S.length else ph x) = S.length := if_pos e
      have e2 : (if x = b then vs else hs x) = vs := if_pos e
      rw [e1, e2]; exact tl
    · have e1 : (if x = b then S.length else ph x) = ph x := if_neg e
      have e2 : (if x = b then vs else hs x) = hs x := if_neg e
      rw [e1, e2]
      exact (t (lt_of (I.ch x)) (by cases x <;> omega)).trans (I.ch x)
  · have hx : ∀ i ∈ m.foot, i ≠ S.length := fun i hi => by have := lf i hi; omega
    refine List.nodup_append.mpr ⟨?_, n2, ?_⟩
    · cases b <;> simp <;> omega
    · intro a ha c hc e
      subst e
      have := lf a hc
      have k : ∀ y ∈ [pv, ps, pq, ph false, ph true], a ≠ y := fun y hy z => n3 y hy a hc z.symm
      simp only [List.mem_cons, List.not_mem_nil, or_false, forall_eq_or_imp, forall_eq] at k
      simp only [List.mem_cons, List.not_mem_nil, or_false] at ha
      cases b <;> simp at ha <;> omega
end
section
variable {ns : List Int} {j : Nat} {S S' : Store} {m : NbM} {vs : List Int} {ss : List (List Rw)} {hs : Bool → List Int} {pv ps pq : Nat} {ph : Bool → Nat}
theorem I14.change (I : I14 ns j S m vs ss hs pv ps pq ph) (b : Bool) {n i : Nat} {v : Int} {s l : List Rw} (hn : n < many14 ns) (hv : vs[n]? = some v) (hc : kget m.cells (n : Int) = some (i, ⟨s, v, false, .non⟩)) (hl : okSrc l) :
    I14 ns (j + 1) ((((S.set i (some (cellO ⟨l, v + 1, false, .non⟩))).set pv (some (Cell.lst (nums (vs.set n (v + 1)))))).set ps (some (Cell.lst ((ss.set n l).map fun s => .d (enc s))))).set (ph b) (some (Cell.lst (nums ((hs b).set n (v + 1)))))) (m.setc n ⟨l, v + 1, false, .non⟩) (vs.set n (v + 1)) (ss.set n l) (fun x => if x = b then (hs x).set n (v + 1) else hs x) pv ps pq ph := by
  have hne := I.ne
  have hi : i ∈ m.foot := .tail _ (.tail _ (.tail _ (List.mem_map.mpr ⟨_, kget_mem hc, rfl⟩)))
  have lv := lt_of I.cv
  have ls := lt_of I.cs
  have lq := lt_of I.cq
  have li := I.nb.lt i hi
  have lh := fun x => lt_of (I.ch x)
  rw [List.nodup_append] at hne
  obtain ⟨n1, n2, n3⟩ := hne
  have no : ∀ y ∈ [pv, ps, pq, ph false, ph true], ∀ a ∈ m.foot, y ≠ a := n3
  have ni : ∀ y ∈ [pv, ps, pq, ph false, ph true], y ≠ i := fun y hy => n3 y hy i hi
  simp only [List.nodup_cons, List.mem_cons, List.not_mem_nil, or_false, not_or, List.nodup_nil, and_true, not_false_eq_true] at n1
  simp only [List.mem_cons, List.not_mem_nil, or_false, forall_eq_or_imp, forall_eq] at ni
  have fr : NbAt (S.set i (some (cellO ⟨l, v + 1, false, .non⟩))) (m.setc n ⟨l, v + 1, false, .non⟩) := I.nb.setc I.ok.key hc
  have hb : ph b ∈ [pv, ps, pq, ph false, ph true] := by cases b <;> simp
  have sb : ph b ≠ pv ∧ ph b ≠ ps ∧ ph b ≠ pq ∧ ph b ≠ i := by cases b <;> omega
  have v1 := I.few v (List.mem_of_getElem? hv)
  have mem_set : ∀ {u : List Int} {w : Int}, w ∈ u.set n (v + 1) → w = v + 1 ∨ w ∈ u := fun h => (List.mem_or_eq_of_mem_set h).symm
  refine { nb := ?_, ok := I.ok.setc hl, b := I.b, new := ?_, lv := by rw [List.length_set]; exact I.lv, ls := by rw [List.length_set]; exact I.ls, lh := ?_, has := ?_, few := ?_, fh := ?_, cv := ?_, cs := ?_, cq := ?_, ch := ?_, ne := by rw [setc_foot]; exact I.ne }
  · refine fr.frame (f := [pv, ps, ph b]) ⟨by simp, fun y hy h => ?_⟩ fun y hy h => ?_
    · simp only [List.mem_cons, List.not_mem_nil, or_false, not_or] at h
      exact (get_set_ne (by omega)).trans ((get_set_ne (by omega)).trans (get_set_ne (by omega)))
    · rw [setc_foot] at hy
      simp only [List.mem_cons, List.not_mem_nil, or_false] at h
      rcases h with rfl | rfl | rfl
      · exact no _ (by simp) _ hy rfl
      · exact no _ (by simp) _ hy rfl
      · exact no _ hb _ hy rfl
  · intro p hp
    obtain ⟨q, hq, _, _, h⟩ := setc_mem hp
    rcases h with ⟨_, h⟩ | ⟨_, h⟩
    · rw [h]; exact ⟨rfl, rfl⟩
    · rw [h]; exact I.new q hq
  · intro x; split
    · rw [List.length_set]; exact I.lh x
    · exact I.lh x
  · intro a ha
    obtain ⟨i', v', s', h1, h2, h3, h4⟩ := I.has a ha
    by_cases e : a = n
    · subst e
      rw [h4] at hc
      refine ⟨i', v + 1, l, by rw [List.getElem?_set_self (by rw [I.lv]; exact ha)], by rw [List.getElem?_set_self (by rw [I.ls]; exact ha)], hl, ?_⟩
      rw [setc_get, h4, Option.map_some, if_pos rfl]
    · refine ⟨i', v', s', by rw [List.getElem?_set_ne (by omega)]; exact h1, by rw [List.getElem?_set_ne (by omega)]; exact h2, h3, ?_⟩
      rw [setc_get, h4, Option.map_some, if_neg (by omega)]
  · intro w hw
    rcases mem_set hw with rfl | h
    · omega
    · have := I.few w h; omega
  · intro x w hw
    by_cases e : x = b
    · have e2 : (if x = b then (hs x).set n (v + 1) else hs x) = (hs x).set n (v + 1) := if_pos e
      rw [e2] at hw
      rcases mem_set hw with rfl | h
      · omega
      · have := I.fh x w h; omega
    · have e2 : (if x = b then (hs x).set n (v + 1) else hs x) = hs x := if_neg e
      rw [e2] at hw
      have := I.fh x w hw; omega
  · exact (get_set_ne (by omega)).trans ((get_set_ne (by omega)).trans (get_set_same (by simpa using lv)))
  · exact (get_set_ne (by omega)).trans (get_set_same (by simpa using ls))
  · exact (get_set_ne (by omega)).trans ((get_set_ne (by omega)).trans ((get_set_ne (by omega)).trans ((get_set_ne (by omega)).trans I.cq)))
  · intro x
    by_cases e : x = b
    · subst e
      have e2 : (if x = x then (hs x).set n (v + 1) else hs x) = (hs x).set n (v + 1) := if_pos rfl
      rw [e2]
      exact get_set_same (by simpa using lh x)
    · have e2 : (if x = b then (hs x).set n (v + 1) else hs x) = hs x := if_neg e
      rw [e2]
      have sx : ph x ≠ pv ∧ ph x ≠ ps ∧ ph x ≠ i ∧ ph b ≠ ph x := by cases x <;> cases b <;> simp at e <;> omega
      exact (get_set_ne (by omega)).trans ((get_set_ne (by omega)).trans ((get_set_ne (by omega)).trans ((get_set_ne (by omega)).trans (I.ch x))))
end
section
variable {S : Store}
theorem ixN_nat {n j : Nat} (h : j < n) : L2.ixN n (j : Nat) = some j := by
  unfold L2.ixN
  simp [h]
theorem lput_at {i j : Nat} {m : List Val} {z : Val} (h : S[i]? = some (some (.lst m))) (hj : j < m.length) : gLput (.ref i) (.d (.int (j : Nat))) z S = some (S.set i (some (.lst (m.set j z)))) := by
  unfold gLput
  rw [cell_at h]
  dsimp only [intOf]
  rw [ixN_nat hj]
theorem get_at {i j : Nat} {m : List Val} {z : Val} (h : S[i]? = some (some (.lst m))) (hj : m[j]? = some z) : gSub (.ref i) (.d (.int (j : Nat))) S = .ok z S := by
  have hl : j < m.length := by
    rcases Nat.lt_or_ge j m.length with h | h
    · exact h
    · rw [List.getElem?_eq_none h] at hj; cases hj
  unfold gSub gSel
  rw [if_neg (by simp [isDct, dctOf, h])]
  unfold gIx
  dsimp only
  rw [show seqOf S (.ref i) = some m by unfold seqOf; rw [lst_at h]]
  dsimp only
  rw [show L2.atI m (j : Nat) = some z by unfold L2.atI; rw [ixN_nat hl]; exact hj]
theorem z_lput {fo fk fv : EF} {e : Envr} {S1 S2 S3 S4 : Store} {x y z : Val} (hv : fv e S = .ok z S1) (ho : fo e S1 = .ok x S2) (hk : fk e S2 = .ok y S3) (h : gLput x y z S3 = some S4) : sLput fo fk fv e S = .nx e S4 := by
  unfold sLput; rw [hv]; dsimp only [sbind]; rw [ho]; dsimp only; rw [hk]; dsimp only; rw [h]
theorem z_laug {fo fk fv : EF} {e : Envr} {i j : Nat} {m : List Val} {a b : Int} (ho : fo e S = .ok (.ref i) S) (hk : fk e S = .ok (.d (.int (j : Nat))) S) (hi : S[i]? = some (some (.lst m))) (hj : m[j]? = some (.d (.int a))) (hv : fv e S = .ok (.d (.int b)) S) : sLaug fo fk fv e S = .nx e (S.set i (some (.lst (m.set j (.d (.int (a + b))))))) := by
  have hl : j < m.length := (List.getElem?_eq_some_iff.mp hj).1
  unfold sLaug; rw [ho]; dsimp only [sbind]; rw [hk]; dsimp only
  unfold gIxL
  rw [cell_at hi]; dsimp only [intOf]
  rw [show L2.atI m (j : Nat) = some (.d (.int a)) by unfold L2.atI; rw [ixN_nat hl]; exact hj]
  dsimp only
  rw [hv]; dsimp only
  rw [lput_at hi hl]
end
/-- a turn of the second loop, as the mirror has it -/
noncomputable def lp14 (c : Calls) : SF :=
  (sSeq (sAsg 7 (eCall c.law_seed (aCons (e2 (gAdd false) (eCall c.law_cell (aCons (eVar 0) (aCons (e2 (gAdd false) (eDat (.int 3)) (e2 gMod (eVar 3) (eDat (.int 5)))) aNil))) (e2 (gMul false) (eDat (.int 37)) (eVar 3))) (aCons (eVar 3) aNil))))
    (sSeq (sAsg 8 (e2 gMod (e2 gDiv (eVar 7) (eDat (.int 7))) (eDat (.int 2))))
    (sSeq (sAsg 9 (e2 gMod (e2 gDiv (eVar 7) (eDat (.int 11))) (eVar 2)))
    (sSeq (sIf (bVal (e2 gEq (eCall c.law_pick (aCons (eVar 7) (aCons (eDat (.int 3)) aNil))) (eDat (.int 0)))) (sLput (eVar 6) (eVar 8) (eComp true (iRange1 (eVar 2)) (gN 10) tYesF (eMeth "Notebook" "version" c.Notebook_version (eVar 1) (aCons (eVar 10) aNil)) [10])) (sSeq (sAsg 11 (eCall c.law_source (aCons (eCall c.law_seed (aCons (eVar 7) (aCons (eDat (.int 1)) aNil))) aNil)))
    (sSeq (sAsg 12 (eDat (.bl false)))
    (sSeq (sAsg 13 (eDat .non))
    (sSeq (sTry ct_Behind (sAsg 13 (eMeth "Notebook" "change" c.Notebook_change (eVar 1) (aCons (eVar 9) (aCons (e2 gSub (e2 gSub (eVar 6) (eVar 8)) (eVar 9)) (aCons (eVar 11) aNil)))))
    (sAsg 12 (eDat (.bl true))))
    (sSeq (sIf (bVal (e2 gNe (eVar 12) (e2 gNe (e2 gSub (e2 gSub (eVar 6) (eVar 8)) (eVar 9)) (e2 gSub (eVar 5) (eVar 9))))) (sRet (eDat (.bl false))) (fun e S => .nx e S))
    (sIf (bNot (bTruth (eVar 12))) (sSeq (sLaug (eVar 5) (eVar 9) (eDat (.int 1)))
    (sSeq (sLput (eVar 4) (eVar 9) (eVar 11))
    (sSeq (sLput (e2 gSub (eVar 6) (eVar 8)) (eVar 9) (eVar 13))
    (sIf (bVal (e2 gNe (eVar 13) (e2 gSub (eVar 5) (eVar 9)))) (sRet (eDat (.bl false))) (fun e S => .nx e S))))) (fun e S => .nx e S))))))))
    (sSeq (sIf (bVal (e2 gNe (eComp false (iRange1 (eVar 2)) (gN 10) tYesF (eMeth "Notebook" "version" c.Notebook_version (eVar 1) (aCons (eVar 10) aNil)) [10]) (eVar 5))) (sRet (eDat (.bl false))) (fun e S => .nx e S))
    (sIf (bVal (e2 gNe (eComp false (iRange1 (eVar 2)) (gN 10) tYesF (eMeth "Notebook" "source" c.Notebook_source (eVar 1) (aCons (eVar 10) aNil)) [10]) (eVar 4))) (sRet (eDat (.bl false))) (fun e S => .nx e S)))))))
section
variable {ns : List Int} {j : Nat} {S : Store} {m : NbM} {vs : List Int} {ss : List (List Rw)} {hs : Bool → List Int} {pv ps pq : Nat} {ph : Bool → Nat}
theorem mkL_live {l : List Val} : mkL true l S = .ok (.ref S.length) (S ++ [some (.lst l)]) := rfl
def sd14 (ns : List Int) (j : Nat) : Int := lawSeed (cellI ns (3 + j % 5) + 37 * (j : Nat)) j
def hand14 (s : Int) : Bool := decide (s / 7 % 2 = 1)
def num14 (ns : List Int) (s : Int) : Nat := (s / 11 % (many14 ns : Nat)).toNat
theorem hand14_eq (s : Int) : s / 7 % 2 = ((if hand14 s = true then 1 else 0 : Nat) : Int) := by
  unfold hand14
  by_cases h : s / 7 % 2 = 1
  · rw [decide_eq_true h, if_pos rfl, h]; rfl
  · rw [decide_eq_false h, if_neg (by decide)]; omega
theorem num14_lt (ns : List Int) (s : Int) : num14 ns s < many14 ns ∧ s / 11 % (many14 ns : Nat) = (num14 ns s : Nat) := by
  have h := many14_le ns
  have h1 := Int.emod_nonneg (s / 11) (show ((many14 ns : Nat) : Int) ≠ 0 by omega)
  have h2 := Int.emod_lt_of_pos (s / 11) (show (0 : Int) < (many14 ns : Nat) by omega)
  unfold num14
  omega
end
end Z
set_option Elab.async false
set_option linter.all false
set_option maxRecDepth 100000
set_option maxHeartbeats 4000000
namespace Z
open PySem L2 Evl NdefX LamX
/-! ## mirrors are run by rewriting -/
def sel {α : Type} (b : Bool) (x y : α) : α := if b = true then x else y
theorem sel_t {α : Type} {x y : α} : sel true x y = x := rfl
theorem sel_f {α : Type} {x y : α} : sel false x y = y := rfl
def thn (r : SRes) (g : SF) : SRes := match r with
  | .nx e' S' => g e' S'
  | r => r
section
variable {α β : Type} {e : Envr} {S S1 S2 : Store} {f g h : EF} {s t u : SF} {a : AF} {c d : BF} {x y : Val} {z : Exn} {k : α → Store → Res β} {ks : α → Store → SRes} {b : Bool}
theorem x_rok {v : α} : rbind (.ok v S) k = k v S := rfl
theorem x_rexc : rbind (.exc z S) k = .exc z S := rfl
theorem x_sok {v : α} : sbind e (.ok v S) ks = ks v S := rfl
theorem x_sexc : sbind e (.exc z S) ks = .exc z e S := rfl
theorem x_xok {v : α} : rbindx (.ok v S) k = k v S := rfl
theorem x_tnx : thn (.nx e S) s = s e S := rfl
theorem x_trt : thn (.rt x S) s = .rt x S := rfl
theorem x_tbk : thn (.bk e S) s = .bk e S := rfl
theorem x_tct : thn (.ct e S) s = .ct e S := rfl
theorem x_texc : thn (.exc z e S) s = .exc z e S := rfl
theorem x_seq : sSeq s t e S = thn (s e S) t := rfl
def kRt (x : Val) (S : Store) : SRes := .rt x S
theorem x_kRt : kRt x S = .rt x S := rfl
theorem x_ret : sRet f e S = sbind e (f e S) kRt := rfl
theorem x_retN : sRetN e S = .rt (.d .non) S := rfl
def kDrop (e : Envr) (_ : Val) (S : Store) : SRes := .nx e S
theorem x_kDrop : kDrop e x S = .nx e S := rfl
theorem x_drop : sDrop f e S = sbind e (f e S) (kDrop e) := rfl
theorem x_doc : sDoc e S = .nx e S := rfl
def kAsg (e : Envr) (i : Nat) (x : Val) (S : Store) : SRes := .nx (e.set i (some x)) S
theorem x_kAsg {i : Nat} : kAsg e i x S = .nx (e.set i (some x)) S := rfl
theorem x_asg {i : Nat} : sAsg i f e S = sbind e (f e S) (kAsg e i) := rfl
def kIf (s t : SF) (e : Envr) (b : Bool) (S : Store) : SRes := if b = true then s e S else t e S
theorem x_kIfT : kIf s t e true S = s e S := rfl
theorem x_kIfF : kIf s t e false S = t e S := rfl
theorem x_if : sIf c s t e S = sbind e (c e S) (kIf s t e) := rfl
theorem x_pass : sPass e S = .nx e S := rfl
theorem x_cont : sCont e S = .ct e S := rfl
theorem x_break : sBreak e S = .bk e S := rfl
theorem x_raise {n : Str} : sRaise n e S = .exc ⟨n, none⟩ e S := rfl
def getV (o : Option (Option Val)) (S : Store) : Res Val := match o with
  | some (some x) => .ok x S
  | _ => .stuck
theorem x_getV : getV (some (some x)) S = .ok x S := rfl
theorem x_var {i : Nat} : eVar i e S = getV e[i]? S := rfl
theorem x_dat {w : Dat} : eDat w e S = .ok (.d w) S := rfl
theorem x_nil : aNil e S = .ok [] S := rfl
def kCons2 (x : Val) (l : List Val) (S : Store) : Res (List Val) := .ok (x :: l) S
theorem x_kCons2 {l : List Val} : kCons2 x l S = .ok (x :: l) S := rfl
def kCons (a : AF) (e : Envr) (x : Val) (S : Store) : Res (List Val) := rbind (a e S) (kCons2 x)
theorem x_kCons : kCons a e x S = rbind (a e S) (kCons2 x) := rfl
theorem x_cons : aCons f a e S = rbind (f e S) (kCons a e) := rfl
theorem x_e1 {o : Val → Store → Res Val} : e1 o f e S = rbind (f e S) o := rfl
def k2 (o : Val → Val → Store → Res Val) (g : EF) (e : Envr) (x : Val) (S : Store) : Res Val := rbind (g e S) (o x)
theorem x_k2 {o : Val → Val → Store → Res Val} : k2 o g e x S = rbind (g e S) (o x) := rfl
theorem x_e2 {o : Val → Val → Store → Res Val} : e2 o f g e S = rbind (f e S) (k2 o g e) := rfl
theorem x_e2' {o : Val → Val → Store → Res Val} : e2' o f g e S = rbind (f e S) (k2 o g e) := rfl
theorem x_bVal : bVal f e S = rbind (f e S) rbool := rfl
theorem x_rbool : rbool (.d (.bl b)) S = .ok b S := rfl
def kAnd (d : BF) (e : Envr) (b : Bool) (S : Store) : Res Bool := if b = true then d e S else .ok false S
theorem x_kAndT : kAnd d e true S = d e S := rfl
theorem x_kAndF : kAnd d e false S = .ok false S := rfl
theorem x_bAnd : bAnd c d e S = rbind (c e S) (kAnd d e) := rfl
def kOr (d : BF) (e : Envr) (b : Bool) (S : Store) : Res Bool := if b = true then .ok true S else d e S
theorem x_kOrT : kOr d e true S = .ok true S := rfl
theorem x_kOrF : kOr d e false S = d e S := rfl
theorem x_bOr : bOr c d e S = rbind (c e S) (kOr d e) := rfl
def kNot (b : Bool) (S : Store) : Res Bool := .ok (!b) S
theorem x_kNot : kNot b S = .ok (!b) S := rfl
theorem x_bNot : bNot c e S = rbind (c e S) kNot := rfl
theorem x_bTruth : bTruth f e S = rbind (f e S) rtruth := rfl
theorem x_tru_non : rtruth (.d .non) S = .ok false S := rfl
theorem x_tru_bl : rtruth (.d (.bl b)) S = .ok b S := rfl
theorem x_tru_tup {l : List Dat} : rtruth (.d (.tup l)) S = .ok (!l.isEmpty) S := rfl
theorem x_tru_lst {l : List Dat} : rtruth (.d (.lst l)) S = .ok (!l.isEmpty) S := rfl
def kEAnd (g : EF) (e : Envr) (b : Bool) (S : Store) : Res Val := if b = true then g e S else .ok (.d (.bl false)) S
theorem x_kEAndT : kEAnd g e true S = g e S := rfl
theorem x_kEAndF : kEAnd g e false S = .ok (.d (.bl false)) S := rfl
theorem x_eAnd : eAnd f g e S = rbind (bVal f e S) (kEAnd g e) := rfl
def kEOr (g : EF) (e : Envr) (b : Bool) (S : Store) : Res Val := if b = true then .ok (.d (.bl true)) S else g e S
theorem x_kEOrT : kEOr g e true S = .ok (.d (.bl true)) S := rfl
theorem x_kEOrF : kEOr g e false S = g e S := rfl
theorem x_eOr : eOr f g e S = rbind (bVal f e S) (kEOr g e) := rfl
def kENot (b : Bool) (S : Store) : Res Val := .ok (.d (.bl (!b))) S
theorem x_kENot : kENot b S = .ok (.d (.bl (!b))) S := rfl
theorem x_eNot : eNot f e S = rbind (bVal f e S) kENot := rfl
theorem x_eNotT : eNotT f e S = rbind (bTruth f e S) kENot := rfl
def kEIf (f g : EF) (e : Envr) (b : Bool) (S : Store) : Res Val := if b = true then f e S else g e S
theorem x_kEIfT : kEIf f g e true S = f e S := rfl
theorem x_kEIfF : kEIf f g e false S = g e S := rfl
theorem x_eIf : eIf c f g e S = rbind (c e S) (kEIf f g e) := rfl
theorem x_okd {w : Dat} : okd w S = .ok (.d w) S := rfl
def kCh3 (p : Val → Val → Store → Res Val) (h : EF) (e : Envr) (y : Val) (b : Bool) (S : Store) : Res Val := if b = true then rbind (h e S) (p y) else .ok (.d (.bl false)) S
theorem x_kCh3T {p : Val → Val → Store → Res Val} : kCh3 p h e y true S = rbind (h e S) (p y) := rfl
theorem x_kCh3F {p : Val → Val → Store → Res Val} : kCh3 p h e y false S = .ok (.d (.bl false)) S := rfl
def kCh2 (o p : Val → Val → Store → Res Val) (h : EF) (e : Envr) (x y : Val) (S : Store) : Res Val := rbind (rbind (o x y S) rbool) (kCh3 p h e y)
theorem x_kCh2 {o p : Val → Val → Store → Res Val} : kCh2 o p h e x y S = rbind (rbind (o x y S) rbool) (kCh3 p h e y) := rfl
def kCh (o p : Val → Val → Store → Res Val) (g h : EF) (e : Envr) (x : Val) (S : Store) : Res Val := rbind (g e S) (kCh2 o p h e x)
theorem x_kCh {o p : Val → Val → Store → Res Val} : kCh o p g h e x S = rbind (g e S) (kCh2 o p h e x) := rfl
theorem x_chain {o p : Val → Val → Store → Res Val} : eChain o p f g h e S = rbind (f e S) (kCh o p g h e) := rfl
theorem x_call {v : VF} : eCall v a e S = rbind (a e S) v := rfl
theorem x_call0 {v : VF} : eCall0 v e S = v [] S := rfl
def kMeth2 (v : VF) (x : Val) (l : List Val) (S : Store) : Res Val := v (x :: l) S
theorem x_kMeth2 {v : VF} {l : List Val} : kMeth2 v x l S = v (x :: l) S := rfl
def kMeth (n m : Str) (v : VF) (a : AF) (e : Envr) (x : Val) (S : Store) : Res Val := if isIns n m x S = true then rbind (a e S) (kMeth2 v x) else .stuck
theorem x_kMeth {n m : Str} {v : VF} : kMeth n m v a e x S = sel (isIns n m x S) (rbind (a e S) (kMeth2 v x)) .stuck := rfl
theorem x_meth {n m : Str} {v : VF} : eMeth n m v f a e S = rbind (f e S) (kMeth n m v a e) := rfl
theorem x_B {o : List Val → Store → Res Val} : eB o a e S = rbind (a e S) o := rfl
def kMt (o : Val → List Val → Store → Res Val) (a : AF) (e : Envr) (x : Val) (S : Store) : Res Val := rbind (a e S) (o x)
theorem x_kMt {o : Val → List Val → Store → Res Val} : kMt o a e x S = rbind (a e S) (o x) := rfl
theorem x_mt {o : Val → List Val → Store → Res Val} : eMt o f a e S = rbind (rbind (f e S) gIsL) (kMt o a e) := rfl
theorem x_isL : gIsL x S = sel (lstOf S x).isSome (.ok x S) .stuck := rfl
theorem x_isD : gIsD x S = sel (dctOf S x).isSome (.ok x S) .stuck := rfl
theorem x_tup : eTup a e S = rbind (a e S) rtup := rfl
theorem x_lst : eLst a e S = rbind (a e S) rlst := rfl
theorem x_frz : eFrz f e S = rbind (f e S) rfrz := rfl
theorem x_comp {lv : Bool} {it : IF} {tg : GF} {vs : List Nat} : eComp lv it tg c f vs e S = rbind (compF it tg c f vs e S) (mkL lv) := rfl
def kSli3 (lv : Bool) (x : Val) (lo hi : Option Int) (S : Store) : Res Val := gSli lv x lo hi S
theorem x_kSli3 {lv : Bool} {lo hi : Option Int} : kSli3 lv x lo hi S = gSli lv x lo hi S := rfl
def kSli2 (lv : Bool) (p : OF) (e : Envr) (x : Val) (lo : Option Int) (S : Store) : Res Val := rbind (p e S) (kSli3 lv x lo)
theorem x_kSli2 {lv : Bool} {p : OF} {lo : Option Int} : kSli2 lv p e x lo S = rbind (p e S) (kSli3 lv x lo) := rfl
def kSli (lv : Bool) (o p : OF) (e : Envr) (x : Val) (S : Store) : Res Val := rbind (o e S) (kSli2 lv p e x)
theorem x_kSli {lv : Bool} {o p : OF} : kSli lv o p e x S = rbind (o e S) (kSli2 lv p e x) := rfl
theorem x_sli {lv : Bool} {o p : OF} : eSli lv f o p e S = rbind (f e S) (kSli lv o p e) := rfl
theorem x_oNone : oNone e S = .ok none S := rfl
theorem x_oSome : oSome f e S = rbind (f e S) rint := rfl
theorem x_rint {i : Int} : rint (.d (.int i)) S = .ok (some i) S := rfl
def kGet22 (h : EF) (e : Envr) (x y : Val) (S : Store) : Res Val := rbind (h e S) (gDget2 x y)
theorem x_kGet22 : kGet22 h e x y S = rbind (h e S) (gDget2 x y) := rfl
def kGet2 (g h : EF) (e : Envr) (x : Val) (S : Store) : Res Val := rbind (g e S) (kGet22 h e x)
theorem x_kGet2 : kGet2 g h e x S = rbind (g e S) (kGet22 h e x) := rfl
theorem x_get2 : eGet2 f g h e S = rbind (rbind (f e S) gIsD) (kGet2 g h e) := rfl
def kPop (g : EF) (e : Envr) (x : Val) (S : Store) : Res Val := rbind (g e S) (gPop x)
theorem x_kPop : kPop g e x S = rbind (g e S) (gPop x) := rfl
theorem x_pop : ePop f g e S = rbind (rbind (f e S) gIsD) (kPop g e) := rfl
theorem x_dct0 : eDct0 e S = .ok (.ref S.length) (S ++ [some (.dct [])]) := rfl
def onS (e : Envr) (o : Option Store) : SRes := match o with
  | some S' => .nx e S'
  | none => .stuck
theorem x_onS : onS e (some S) = .nx e S := rfl
def onE (S : Store) (o : Option Envr) : SRes := match o with
  | some e' => .nx e' S
  | none => .stuck
theorem x_onE : onE S (some e) = .nx e S := rfl
def kFput2 (cs : List Str) (n : Str) (e : Envr) (y x : Val) (S : Store) : SRes := onS e (gFput cs n x y S)
theorem x_kFput2 {cs : List Str} {n : Str} : kFput2 cs n e y x S = onS e (gFput cs n x y S) := rfl
def kFput (cs : List Str) (n : Str) (f : EF) (e : Envr) (y : Val) (S : Store) : SRes := sbind e (f e S) (kFput2 cs n e y)
theorem x_kFput {cs : List Str} {n : Str} : kFput cs n f e y S = sbind e (f e S) (kFput2 cs n e y) := rfl
theorem x_fput {cs : List Str} {n : Str} : sFput cs n f g e S = sbind e (g e S) (kFput cs n f e) := rfl
def kPut3 (o : Val → Val → Val → Store → Option Store) (e : Envr) (z x y : Val) (S : Store) : SRes := onS e (o x y z S)
theorem x_kPut3 {o : Val → Val → Val → Store → Option Store} {z : Val} : kPut3 o e z x y S = onS e (o x y z S) := rfl
def kPut2 (o : Val → Val → Val → Store → Option Store) (g : EF) (e : Envr) (z x : Val) (S : Store) : SRes := sbind e (g e S) (kPut3 o e z x)
theorem x_kPut2 {o : Val → Val → Val → Store → Option Store} {z : Val} : kPut2 o g e z x S = sbind e (g e S) (kPut3 o e z x) := rfl
def kPut (o : Val → Val → Val → Store → Option Store) (f g : EF) (e : Envr) (z : Val) (S : Store) : SRes := sbind e (f e S) (kPut2 o g e z)
theorem x_kPut {o : Val → Val → Val → Store → Option Store} {z : Val} : kPut o f g e z S = sbind e (f e S) (kPut2 o g e z) := rfl
theorem x_dput : sDput f g h e S = sbind e (h e S) (kPut gDput f g e) := rfl
theorem x_lput : sLput f g h e S = sbind e (h e S) (kPut gLput f g e) := rfl
def kUnp (tg : GF) (e : Envr) (x : Val) (S : Store) : SRes := onE S (tg x e)
theorem x_kUnp {tg : GF} : kUnp tg e x S = onE S (tg x e) := rfl
theorem x_unp {tg : GF} : sUnp tg f e S = sbind e (f e S) (kUnp tg e) := rfl
def augI (e : Envr) (i : Nat) (op : Int → Int → Int) (x y : Val) (S : Store) : SRes := match intOf x, intOf y with
    | some a, some b => .nx (e.set i (some (.d (.int (op a b))))) S
    | _, _ => .stuck
theorem x_augI {i : Nat} {op : Int → Int → Int} {m n : Int} : augI e i op (.d (.int m)) (.d (.int n)) S = .nx (e.set i (some (.d (.int (op m n))))) S := rfl
def augO (e : Envr) (i : Nat) (op : Int → Int → Int) (f : EF) (S : Store) (o : Option (Option Val)) : SRes := match o with
  | some (some x) => sbind e (f e S) (augI e i op x)
  | _ => .stuck
theorem x_augO {i : Nat} {op : Int → Int → Int} : augO e i op f S (some (some x)) = sbind e (f e S) (augI e i op x) := rfl
theorem x_aug {i : Nat} {op : Int → Int → Int} : sAug i op f e S = augO e i op f S e[i]? := by
  unfold sAug augO; rfl
/-- in a suite that may raise -/
def tryO (ct : Str → Option Bool) (s : SF) (r : SRes) : SRes := match r with
  | .exc z e S => (match ct z.cls with
    | some true => noexc (s e S)
    | some false => .exc z e S
    | none => .stuck)
  | r => r
theorem x_tryR {ct : Str → Option Bool} : tryO ct s (.rt x S) = .rt x S := rfl
theorem x_tryN {ct : Str → Option Bool} : tryO ct s (.nx e S) = .nx e S := rfl
theorem x_try {ct : Str → Option Bool} : sTry ct s t e S = tryO ct t (s e S) := by
  unfold sTry tryO
  cases s e S <;> rfl
theorem x_tryX {ct : Str → Option Bool} (h : ct z.cls = some true) : tryO ct s (.exc z e S) = noexc (s e S) := by
  unfold tryO; dsimp only; rw [h]
theorem x_tryF {ct : Str → Option Bool} (h : ct z.cls = some false) : tryO ct s (.exc z e S) = .exc z e S := by
  unfold tryO; dsimp only; rw [h]
theorem x_noexN : noexc (.nx e S) = .nx e S := rfl
theorem x_noexR : noexc (.rt x S) = .rt x S := rfl
/-! ### defs -/
noncomputable def finT (S : Store) : SRes → Res Val
  | .nx _ S' => outT S (.d .non) S'
  | .rt x S' => outT S x S'
  | .exc x _ S' => rtrim S (.exc x) S'
  | _ => .stuck
theorem x_fnT {np N : Nat} {xs : List Val} : fnT np N s xs S = sel (decide (xs.length = np)) (finT S (s (xs.map some ++ List.replicate (N - np) none) S)) .stuck := by
  unfold fnT sel finT
  by_cases q : xs.length = np
  · rw [if_pos q, if_pos (decide_eq_true q)]
    try (cases s (xs.map some ++ List.replicate (N - np) none) S <;> rfl)
  · rw [if_neg q, if_neg (by rw [decide_eq_false q]; simp)]
theorem x_fT_nx : finT S (.nx e S1) = outT S (.d .non) S1 := rfl
theorem x_fT_rt : finT S (.rt x S1) = outT S x S1 := rfl
theorem x_fT_exc : finT S (.exc z e S1) = rtrim S (.exc z) S1 := rfl
noncomputable def rtr (r : Store → Res α) (o : Option Store) : Res α := match o with
  | some T => r T
  | none => .stuck
theorem x_rtr {r : Store → Res α} : rtr r (some S) = r S := rfl
theorem x_rtrim {r : Store → Res α} : rtrim S r S1 = rtr r (trim S S1) := rfl
theorem x_out_d {w : Dat} : outT S (.d w) S1 = rtr (.ok (.d w)) (trim S S1) := rfl
theorem x_out_t {l : List Val} : outT S (.tup l) S1 = sel (belows S.length l) (rtr (.ok (.tup l)) (trim S S1)) .stuck := rfl
noncomputable def outR (S : Store) (i : Nat) (S' : Store) (o : Option (Option Cell)) : Res Val := match o with
  | some (some c) => (match frz c with
      | some y => rtr (.ok (.d y)) (trim S (S'.set i none))
      | none => .stuck)
  | _ => .stuck
theorem x_out_r {i : Nat} : outT S (.ref i) S1 = sel (decide (i < S.length)) (rtr (.ok (.ref i)) (trim S S1)) (outR S i S1 S1[i]?) := by
  unfold outT sel outR
  by_cases q : i < S.length
  · rw [if_pos (decide_eq_true q)]; dsimp only; rw [if_pos q]; rfl
  · rw [if_neg (by rw [decide_eq_false q]; simp)]; dsimp only; rw [if_neg q]; rfl
theorem x_outL {i : Nat} {l : List Dat} : outR S i S1 (some (some (.lst (l.map .d)))) = rtr (.ok (.d (.lst l))) (trim S (S1.set i none)) := by
  unfold outR frz; dsimp only; rw [dats_map]; rfl
noncomputable def finA : SRes → Res Val
  | .nx _ S' => .ok (.d .non) S'
  | .rt x S' => .ok x S'
  | .exc x _ S' => .exc x S'
  | _ => .stuck
theorem x_fnA {np N : Nat} {xs : List Val} : fnA np N s xs S = sel (decide (xs.length = np)) (finA (s (xs.map some ++ List.replicate (N - np) none) S)) .stuck := by
  unfold fnA sel finA
  by_cases q : xs.length = np
  · rw [if_pos q, if_pos (decide_eq_true q)]
    try (cases s (xs.map some ++ List.replicate (N - np) none) S <;> rfl)
  · rw [if_neg q, if_neg (by rw [decide_eq_false q]; simp)]
theorem x_fA_nx : finA (.nx e S) = .ok (.d .non) S := rfl
theorem x_fA_rt : finA (.rt x S) = .ok x S := rfl
theorem x_fA_exc : finA (.exc z e S) = .exc z S := rfl
/-! ### data -/
theorem x_rtup {l : List Dat} (h : l.length ≤ 100000) : rtup (l.map .d) S = .ok (.d (.tup l)) S := by
  unfold rtup; rw [if_pos (by rw [List.length_map]; exact h), mkTup_map]
theorem x_rtup1 {p : Dat} : rtup [.d p] S = .ok (.d (.tup [p])) S := x_rtup (l := [p]) (Nat.le_of_ble_eq_true rfl)
theorem x_rtup2 {p q : Dat} : rtup [.d p, .d q] S = .ok (.d (.tup [p, q])) S := x_rtup (l := [p, q]) (Nat.le_of_ble_eq_true rfl)
theorem x_rtup3 {p q r : Dat} : rtup [.d p, .d q, .d r] S = .ok (.d (.tup [p, q, r])) S := x_rtup (l := [p, q, r]) (Nat.le_of_ble_eq_true rfl)
theorem x_rtup4 {p q r w : Dat} : rtup [.d p, .d q, .d r, .d w] S = .ok (.d (.tup [p, q, r, w])) S := x_rtup (l := [p, q, r, w]) (Nat.le_of_ble_eq_true rfl)
theorem x_rlst0 : rlst [] S = .ok (.ref S.length) (S ++ [some (.lst [])]) := rfl
theorem x_rlst1 : rlst [x] S = .ok (.ref S.length) (S ++ [some (.lst [x])]) := by unfold rlst; rw [if_pos (Nat.le_of_ble_eq_true rfl)]
theorem x_rlst2 : rlst [x, y] S = .ok (.ref S.length) (S ++ [some (.lst [x, y])]) := by unfold rlst; rw [if_pos (Nat.le_of_ble_eq_true rfl)]
theorem x_rfrz_d {w : Dat} : rfrz (.d w) S = .ok (.d w) S := rfl
theorem x_mkF {l : List Dat} : mkL false (l.map .d) S = .ok (.d (.lst l)) S := mkF
theorem x_mkF0 : mkL false [] S = .ok (.d (.lst [])) S := mkF (m := [])
theorem x_mkT {l : List Val} : mkL true l S = .ok (.ref S.length) (S ++ [some (.lst l)]) := rfl
theorem x_sub {m n : Int} : gSub' (.d (.int m)) (.d (.int n)) S = .ok (.d (.int (m - n))) S := rfl
theorem x_add {m n : Int} {lv : Bool} : gAdd lv (.d (.int m)) (.d (.int n)) S = .ok (.d (.int (m + n))) S := rfl
theorem x_mod {m n : Int} (h : 0 < n) : gMod (.d (.int m)) (.d (.int n)) S = .ok (.d (.int (m % n))) S := mod_int h
theorem x_isiI {n : Int} : gIsi "int" (.d (.int n)) S = .ok (.d (.bl true)) S := rfl
theorem x_isiIs {n : Int} : gIsi "str" (.d (.int n)) S = .ok (.d (.bl false)) S := rfl
theorem x_isiIt {n : Int} : gIsi "tuple" (.d (.int n)) S = .ok (.d (.bl false)) S := rfl
theorem x_isiSs {n : Str} : gIsi "str" (.d (.str n)) S = .ok (.d (.bl true)) S := rfl
theorem x_isiTs {n : List Dat} : gIsi "str" (.d (.tup n)) S = .ok (.d (.bl false)) S := rfl
theorem x_isiTt {n : List Dat} : gIsi "tuple" (.d (.tup n)) S = .ok (.d (.bl true)) S := rfl
theorem x_isiB {n : Int} : gIsi "bool" (.d (.int n)) S = .ok (.d (.bl false)) S := rfl
theorem x_eqI {m n : Int} : gEq (.d (.int m)) (.d (.int n)) S = .ok (.d (.bl (decide (m = n)))) S := rfl
theorem x_neI {m n : Int} : gNe (.d (.int m)) (.d (.int n)) S = .ok (.d (.bl (!decide (m = n)))) S := rfl
theorem x_eqS {m n : Str} : gEq (.d (.str m)) (.d (.str n)) S = .ok (.d (.bl (decide (m = n)))) S := rfl
theorem x_neS {m n : Str} : gNe (.d (.str m)) (.d (.str n)) S = .ok (.d (.bl (!decide (m = n)))) S := rfl
theorem x_eqB {m n : Bool} : gEq (.d (.bl m)) (.d (.bl n)) S = .ok (.d (.bl (decide (m = n)))) S := rfl
theorem x_neB {m n : Bool} : gNe (.d (.bl m)) (.d (.bl n)) S = .ok (.d (.bl (!decide (m = n)))) S := rfl
theorem x_neNI {n : Int} : gNe (.d .non) (.d (.int n)) S = .ok (.d (.bl true)) S := rfl
theorem x_neIN {n : Int} : gNe (.d (.int n)) (.d .non) S = .ok (.d (.bl true)) S := rfl
theorem x_neNN : gNe (.d .non) (.d .non) S = .ok (.d (.bl false)) S := rfl
theorem x_le {m n : Int} : gLe' (.d (.int m)) (.d (.int n)) S = .ok (.d (.bl (decide (m ≤ n)))) S := rfl
theorem x_lt {m n : Int} : gLt (.d (.int m)) (.d (.int n)) S = .ok (.d (.bl (decide (m < n)))) S := rfl
theorem x_gt {m n : Int} : gGt (.d (.int m)) (.d (.int n)) S = .ok (.d (.bl (decide (n < m)))) S := rfl
theorem x_ge {m n : Int} : gGe (.d (.int m)) (.d (.int n)) S = .ok (.d (.bl (decide (n ≤ m)))) S := rfl
theorem x_is {lv : Bool} : gIs lv x (.d .non) S = .ok (.d (.bl (if lv then !isNon x else isNon x))) S := by
  unfold gIs; rfl
theorem x_isF : gIs false x (.d .non) S = .ok (.d (.bl (isNon x))) S := by rw [x_is]; rfl
theorem x_isT : gIs true x (.d .non) S = .ok (.d (.bl (!isNon x))) S := by rw [x_is]; rfl
theorem x_nonN : isNon (.d .non) = true := rfl
theorem x_nonI {i : Int} : isNon (.d (.int i)) = false := rfl
theorem x_nonO {c : Str} {ns : List Str} {l : List Dat} : isNon (.d (.obj c ns l)) = false := rfl
theorem x_nonT {l : List Dat} : isNon (.d (.tup l)) = false := rfl
theorem x_nonD {ks : List Key} {l : List Dat} : isNon (.d (.dct ks l)) = false := rfl
theorem x_toI {i : Int} : gToInt [.d (.int i)] S = .ok (.d (.int i)) S := rfl
theorem x_toB : gToInt [.d (.bl b)] S = .ok (.d (.int (if b then 1 else 0))) S := rfl
theorem x_gN {i : Nat} : gN i x e = some (e.set i (some x)) := rfl
theorem x_yes : tYesF e S = .ok true S := rfl
theorem x_rnon : rnon S = .ok (.d .non) S := rfl
theorem x_tgT {is : List Nat} {l : List Dat} : gT is (.d (.tup l)) e = setAll is (l.map .d) e := rfl
theorem x_sa0 : setAll [] [] e = some e := rfl
theorem x_sa1 {i : Nat} {is : List Nat} {l : List Val} : setAll (i :: is) (x :: l) e = setAll is l (e.set i (some x)) := rfl
theorem x_w0 : wipeE e [] = e := rfl
theorem x_w1 {i : Nat} {is : List Nat} : wipeE e (i :: is) = (wipeE e is).set i none := rfl
end
end Z
set_option Elab.async false
set_option linter.all false
set_option maxRecDepth 100000
set_option maxHeartbeats 4000000
namespace Z
open PySem
/-! ## what the program is about, in plain Lean -/
noncomputable instance decSrc : DecidableEq (List Rw) := fun a b => Classical.propDecidable (a = b)
abbrev Why := Str × Option Str
structure Rec where
  src : List Rw
  asked : List (Str × Option Int)
  shown : List Int
  sets : List (Str × Int)
  why : Option Why
structure Cel where
  src : List Rw
  count : Int
  struck : Bool
  rcd : Option Rec
structure Nb where
  after : Int
  cells : List (Int × Cel)
  row : List Int
def Nb.new : Nb := ⟨0, [], []⟩
def Nb.cel (m : Nb) (n : Int) : Option Cel := kget m.cells n
def Rw.sum : Rw → Sm
  | .set _ e => e
  | .shw e => e
def setName : Rw → Option Str
  | .set x _ => some x
  | .shw _ => none
def setsOf (l : List Rw) : List Str := l.filterMap setName
/-! ### sums, sources -/
inductive Wo where
  | num (i : Int)
  | bad (w : Why)
def reck (w : Str) (a b : Int) : Option Int :=
  if w = "add" then some ((a + b) % 10000)
  else if w = "less" then some ((a - b) % 10000)
  else if w = "times" then some (a * b % 10000)
  else if w = "same" then some (if a = b then 1 else 0)
  else if b = 0 then none else some (a / b)
section
variable {σ : Type} (ask : σ → Str → Option Int × σ)
def worthP (mine : List (Str × Int)) : Sm → σ → Wo × σ
  | .num i, s => (.num i, s)
  | .nam x, s => match kget mine x with
    | some v => (.num v, s)
    | none => match ask s x with
      | (some v, s1) => (.num v, s1)
      | (none, s1) => (.bad ("lacks", some x), s1)
  | .op w a b, s => match worthP mine a s with
    | (.bad y, s1) => (.bad y, s1)
    | (.num u, s1) => match worthP mine b s1 with
      | (.bad y, s2) => (.bad y, s2)
      | (.num v, s2) => match reck w u v with
        | some z => (.num z, s2)
        | none => (.bad ("over", none), s2)
  | .ite t a b, s => match worthP mine t s with
    | (.bad y, s1) => (.bad y, s1)
    | (.num u, s1) => if u = 0 then worthP mine b s1 else worthP mine a s1
structure Tl where
  shown : List Int
  mine : List (Str × Int)
  why : Option Why
def doneP : List Rw → List (Str × Int) → List Int → σ → Tl × σ
  | [], mine, found, s => (⟨found, mine, none⟩, s)
  | r :: rest, mine, found, s => match worthP ask mine r.sum s with
    | (.bad w, s1) => (⟨found, [], some w⟩, s1)
    | (.num v, s1) => match setName r with
      | some x => doneP rest (kput mine x v) found s1
      | none => doneP rest mine (found ++ [v]) s1
end
/-! ### who sets a name -/
def Nb.ahead (m : Nb) (n : Int) : List Int := m.row.takeWhile fun k => decide (k ≠ n)
def Nb.sets1 (m : Nb) (x : Str) (o : Int) : Bool := match m.cel o with
  | some c => !c.struck && decide (x ∈ setsOf c.src)
  | none => false
def Nb.setter (m : Nb) (n : Int) (x : Str) : Option Int := ((m.ahead n).filter (m.sets1 x)).getLast?
def Nb.lastTold (m : Nb) (o : Option Int) (x : Str) : Option Int := match o with
  | none => none
  | some n => match m.cel n with
    | some c => (match c.rcd with
      | some r => kget r.sets x
      | none => none)
    | none => none
noncomputable def Nb.holds (m : Nb) (n : Int) (fr : List Int) : Bool := match m.cel n with
  | some c => (match c.rcd with
    | some r => decide (r.src = c.src) && r.asked.all fun p => (match m.setter n p.1 with
        | some o => decide (o ∈ fr)
        | none => true) && decide (p.2 = m.lastTold (m.setter n p.1) p.1)
    | none => false)
  | none => false
def Nb.live1 (m : Nb) (n : Int) : Bool := match m.cel n with
  | some c => !c.struck
  | none => false
noncomputable def Nb.fresh (m : Nb) : List Int := m.row.foldl (fun fr n => if m.live1 n && m.holds n fr then fr ++ [n] else fr) []
noncomputable def Nb.state (m : Nb) (n : Int) : Str := match m.cel n with
  | some c => if c.struck then "struck" else if c.rcd.isNone then "new" else if n ∈ m.fresh then "fresh" else "stale"
  | none => ""
/-! ### runs -/
def Nb.setc (m : Nb) (n : Int) (c : Cel) : Nb := { m with cells := m.cells.map fun p => if p.1 = n then (p.1, c) else p }
structure De where
  m : Nb
  good : List Int
  ran : List Int
section
variable (dem : Int → De → De)
def toldP (n : Int) (s : De) (x : Str) : Option Int × De := match s.m.setter n x with
  | none => (none, s)
  | some o => ((dem o s).m.lastTold (some o) x, dem o s)
def standsL (n : Int) : List (Str × Option Int) → De → Bool × De
  | [], s => (true, s)
  | p :: r, s => if (toldP dem n s p.1).1 = p.2 then standsL n r (toldP dem n s p.1).2 else (false, (toldP dem n s p.1).2)
noncomputable def standsP (n : Int) (s : De) : Bool × De := match s.m.cel n with
  | some c => (match c.rcd with
    | some r => if r.src = c.src then standsL dem n r.asked s else (false, s)
    | none => (false, s))
  | none => (false, s)
abbrev Log := List (Str × Option Int)
def note (l : Log) (x : Str) (v : Option Int) : Log := if x ∈ l.map (·.1) then l else l ++ [(x, v)]
def askP (n : Int) (s : De × Log) (x : Str) : Option Int × (De × Log) := ((toldP dem n s.1 x).1, ((toldP dem n s.1 x).2, note s.2 x (toldP dem n s.1 x).1))
def recOf (src : List Rw) (q : Tl × (De × Log)) : Rec := ⟨src, q.2.2, q.1.shown, q.1.mine, q.1.why⟩
def runP (n : Int) (c : Cel) (s : De) : De :=
  let q := doneP (askP dem n) c.src [] [] (s, [])
  ⟨q.2.1.m.setc n { c with rcd := some (recOf c.src q) }, q.2.1.good ++ [n], q.2.1.ran ++ [n]⟩
noncomputable def demStep (n : Int) (s : De) : De :=
  if n ∈ s.good then s else match s.m.cel n with
    | none => s
    | some c => if (standsP dem n s).1 = true then { (standsP dem n s).2 with good := (standsP dem n s).2.good ++ [n] } else runP dem n c (standsP dem n s).2
end
noncomputable def demandP : Nat → Int → De → De
  | 0 => fun _ s => s
  | k + 1 => demStep (demandP k)
noncomputable def Nb.run (m : Nb) (n : Int) : De := demandP 31 n ⟨m, [], []⟩
noncomputable def Nb.runAll (m : Nb) : De := m.row.foldl (fun s n => if m.live1 n then demandP 31 n s else s) ⟨m, [], []⟩
/-! ### deeds -/
def Nb.put (m : Nb) (p : Nat) (l : List Rw) : Nb := { after := m.after + 1, cells := m.cells ++ [(m.after, ⟨l, 0, false, none⟩)], row := m.row.take p ++ [m.after] ++ m.row.drop p }
def Nb.drop (m : Nb) (n : Int) : Nb := { m with cells := m.cells.filter fun p => decide (p.1 ≠ n), row := m.row.erase n }
def Nb.move (m : Nb) (n : Int) (p : Nat) : Nb := { m with row := (m.row.erase n).take p ++ [n] ++ (m.row.erase n).drop p }
/-! ### how often a source may ask -/
def cntS : Sm → Nat
  | .num _ => 0
  | .nam _ => 1
  | .op _ a b => cntS a + cntS b
  | .ite t a b => cntS t + cntS a + cntS b
def cntR : List Rw → Nat
  | [] => 0
  | r :: l => cntS r.sum + cntR l
theorem cntS_le : ∀ {d : Nat} {e : Sm}, okSm d e → cntS e ≤ 3 ^ d
  | d, .num _, _ => Nat.zero_le _
  | d, .nam _, _ => Nat.one_le_pow _ _ (by decide)
  | d + 1, .op w a b, h => by
    have h1 := cntS_le h.2.1
    have h2 := cntS_le h.2.2
    have : 3 ^ (d + 1) = 3 ^ d * 3 := Nat.pow_succ ..
    show cntS a + cntS b ≤ _
    omega
  | d + 1, .ite t a b, h => by
    have h1 := cntS_le h.1
    have h2 := cntS_le h.2.1
    have h3 := cntS_le h.2.2
    have : 3 ^ (d + 1) = 3 ^ d * 3 := Nat.pow_succ ..
    show cntS t + cntS a + cntS b ≤ _
    omega
  | 0, .op _ _ _, h => h.elim
  | 0, .ite _ _ _, h => h.elim
theorem cntR_le : ∀ {l : List Rw}, (∀ r ∈ l, okRw r) → cntR l ≤ l.length * 729
  | [], _ => Nat.le_refl _
  | r :: l, h => by
    have h1 := cntR_le (l := l) fun r m => h r (.tail _ m)
    have h2 : cntS r.sum ≤ 3 ^ 6 := by
      have := h r (.head _)
      cases r with
      | set x e => exact cntS_le this.2
      | shw e => exact cntS_le this
    show cntS r.sum + cntR l ≤ (l.length + 1) * 729
    have : 3 ^ 6 = 729 := by decide
    omega
/-! ### a notebook in order -/
structure RecOk (r : Rec) : Prop where
  src : okSrc r.src
  num : ∀ q ∈ r.sets, 0 ≤ q.2 ∧ q.2 ≤ 9999
  few : r.asked.length ≤ 6000
structure NOk (m : Nb) : Prop where
  key : (m.cells.map (·.1)).Nodup
  low : ∀ p ∈ m.cells, 0 ≤ p.1 ∧ p.1 < m.after
  nod : m.row.Nodup
  mem : ∀ n, n ∈ m.row ↔ n ∈ m.cells.map (·.1)
  few : m.row.length ≤ 30
  src : ∀ p ∈ m.cells, okSrc p.2.src
  pos : 0 ≤ m.after
  rcs : ∀ p ∈ m.cells, ∀ r, p.2.rcd = some r → RecOk r
end Z
set_option Elab.async false
set_option linter.all false
set_option maxRecDepth 100000
set_option maxHeartbeats 4000000
namespace Z
open PySem L2 Evl NdefX LamX
/-! ## memory: what stands where, apart -/
abbrev Pl := List (Nat × Cell)
structure Mem (S : Store) (ps : Pl) : Prop where
  nd : (ps.map (·.1)).Nodup
  at_ : ∀ q ∈ ps, S[q.1]? = some (some q.2)
def feet (ps : Pl) : List Nat := ps.map (·.1)
section
variable {S S' T U : Store} {ps qs rs : Pl} {i : Nat} {c c' : Cell} {f : List Nat}
theorem Mem.lt (h : Mem S ps) : ∀ i ∈ feet ps, i < S.length := fun i hi => by
  obtain ⟨q, hq, rfl⟩ := List.mem_map.mp hi
  exact lt_of (h.at_ q hq)
theorem Mem.get (h : Mem S (ps ++ (i, c) :: qs)) : S[i]? = some (some c) := h.at_ (i, c) (List.mem_append_right _ (.head _))
theorem Mem.perm (h : Mem S ps) (p : ps.Perm qs) : Mem S qs := ⟨(p.map _).nodup_iff.mp h.nd, fun q hq => h.at_ q (p.mem_iff.mpr hq)⟩
theorem Mem.sub (h : Mem S ps) (p : qs.Sublist ps) : Mem S qs := ⟨h.nd.sublist (p.map _), fun q hq => h.at_ q (p.subset hq)⟩
theorem Mem.left (h : Mem S (ps ++ qs)) : Mem S ps := h.sub (List.sublist_append_left _ _)
theorem Mem.right (h : Mem S (ps ++ qs)) : Mem S qs := h.sub (List.sublist_append_right _ _)
theorem Mem.set (h : Mem S (ps ++ (i, c) :: qs)) : Mem (S.set i (some c')) (ps ++ (i, c') :: qs) := by
  have e : (ps ++ (i, c') :: qs).map (·.1) = (ps ++ (i, c) :: qs).map (·.1) := by simp
  have nd := h.nd
  refine ⟨by rw [e]; exact nd, fun q hq => ?_⟩
  have hi := lt_of h.get
  rw [List.map_append, List.map_cons, List.nodup_append, List.nodup_cons] at nd
  obtain ⟨n1, ⟨n2, n3⟩, n4⟩ := nd
  rcases List.mem_append.mp hq with m | m
  · rw [get_set_ne (fun z => n4 q.1 (List.mem_map.mpr ⟨q, m, rfl⟩) i (.head _) z.symm)]
    exact h.at_ q (List.mem_append_left _ m)
  · rcases List.mem_cons.mp m with rfl | m
    · exact get_set_same hi
    · rw [get_set_ne (fun z => n2 (by rw [z]; exact List.mem_map.mpr ⟨q, m, rfl⟩))]
      exact h.at_ q (List.mem_append_right _ (.tail _ m))
theorem Mem.app (h : Mem S ps) (o : Store) : Mem (S ++ o) ps := ⟨h.nd, fun q hq => by
  have := h.at_ q hq
  rw [get_app (lt_of this)]; exact this⟩
theorem Mem.new (h : Mem S ps) : Mem (S ++ [some c]) (ps ++ [(S.length, c)]) := by
  refine ⟨?_, fun q hq => ?_⟩
  · rw [List.map_append, List.nodup_append]
    refine ⟨h.nd, by simp, fun a ha b hb => ?_⟩
    have := h.lt a ha
    simp at hb
    omega
  · rcases List.mem_append.mp hq with m | m
    · exact (h.app _).at_ q m
    · rw [List.mem_singleton] at m
      subst m
      exact get_last
theorem Kept.of_set (hi : i ∈ f) {o : Option Cell} : Kept f S (S.set i o) := ⟨by simp, fun j hj n => get_set_ne fun e => n (e ▸ hi)⟩
theorem Kept.of_app : Kept f S (S ++ T) := ⟨by simp, fun j hj _ => get_app hj⟩
theorem Kept.mono {g : List Nat} (h : Kept f S S') (k : ∀ i ∈ f, i < S.length → i ∈ g) : Kept g S S' := ⟨h.len, fun i hi n => h.at_ i hi fun m => n (k i m hi)⟩
theorem Kept.tr {S2 : Store} (a : Kept f S S') (b : Kept f S' S2) : Kept f S S2 := a.trans b (fun _ h => h) (fun _ _ h => h)
/-- what stands apart from what was changed -/
theorem Mem.keep (h : Mem S ps) (k : Kept f S S') (d : ∀ i ∈ feet ps, i ∉ f) : Mem S' ps := ⟨h.nd, fun q hq => by
  have e := h.at_ q hq
  rw [k.at_ _ (lt_of e) (d _ (List.mem_map.mpr ⟨q, hq, rfl⟩))]; exact e⟩
theorem Mem.apart (h : Mem S (ps ++ qs)) : ∀ i ∈ feet qs, i ∉ feet ps := fun i hi hj => by
  have nd := h.nd
  rw [List.map_append, List.nodup_append] at nd
  exact nd.2.2 i hj i hi rfl
theorem Mem.join (h : Mem S ps) (k : Mem S qs) (d : ∀ i ∈ feet qs, i ∉ feet ps) : Mem S (ps ++ qs) := by
  refine ⟨?_, fun q hq => ?_⟩
  · rw [List.map_append, List.nodup_append]
    exact ⟨h.nd, k.nd, fun a ha b hb e => d b hb (by rw [← e]; exact ha)⟩
  · rcases List.mem_append.mp hq with m | m
    · exact h.at_ q m
    · exact k.at_ q m
/-- the frame: ps has become rs, in its own places and new ones -/
theorem Mem.frame (h : Mem S (ps ++ qs)) (k : Kept (feet ps) S S') (r : Mem S' rs) (n : ∀ i ∈ feet rs, i < S.length → i ∈ feet ps) : Mem S' (rs ++ qs) := by
  have q := h.right.keep k h.apart
  refine r.join q fun i hi hr => ?_
  have hl := h.right.lt i hi
  exact h.apart i hi (n i hr hl)
theorem trim_mem (h : Mem T ps) (hl : T.length = S.length) (hk : ∀ i, i < S.length → i ∉ feet ps → T[i]? = S[i]?) (hb : ∀ q ∈ ps, belowC S.length q.2 = true) : trim S (T ++ U) = some T := by
  refine trim_pre hl.symm fun i c hi hc => ?_
  have hi' : i < S.length := by omega
  by_cases hm : i ∈ feet ps
  · refine .inr ?_
    obtain ⟨q, hq, rfl⟩ := List.mem_map.mp hm
    have := h.at_ q hq
    unfold live at hc
    rw [this] at hc; cases hc
    exact hb q hq
  · exact .inl (hk i hi' hm)
end
/-! ## notebooks in memory: objects (p), or dicts -/
def optI : Option Int → Dat
  | none => .non
  | some i => .int i
def optS : Option Str → Dat
  | none => .non
  | some s => .str s
def whyD : Option Why → Dat
  | none => .non
  | some w => .tup [.str w.1, optS w.2]
def askD (p : Str × Option Int) : Dat := .tup [.str p.1, optI p.2]
def askedD (l : List (Str × Option Int)) : Dat := .lst (l.map askD)
def intsD (l : List Int) : Dat := .lst (l.map .int)
def setsD (l : List (Str × Int)) : Dat := .dct (l.map fun q => Sum.inr q.1) (l.map fun q => .int q.2)
def recN : Bool → List Str
  | true => ["lines", "asked", "shown", "sets", "why"]
  | false => ["source", "asked", "shown", "sets", "why"]
def recV (r : Rec) : List Dat := [enc r.src, askedD r.asked, intsD r.shown, setsD r.sets, whyD r.why]
def rcdD (p : Bool) : Option Rec → Dat
  | none => .non
  | some r => match p with
    | true => .obj "Record" (recN true) (recV r)
    | false => .dct ((recN false).map .inr) (recV r)
def celO (p : Bool) (c : Cel) : Cell := match p with
  | true => .ins "Cell" [("lines", .d (enc c.src)), ("count", .d (.int c.count)), ("struck", .d (.bl c.struck)), ("record", .d (rcdD true c.rcd))]
  | false => .dct [(.inr "source", .d (enc c.src)), (.inr "version", .d (.int c.count)), (.inr "struck", .d (.bl c.struck)), (.inr "record", .d (rcdD false c.rcd))]
structure Loc where
  b : Nat
  c : Nat
  r : Nat
  ix : Int → Nat
def topO (p : Bool) (L : Loc) (a : Int) : Cell := match p with
  | true => .ins "Notebook" [("cells", .ref L.c), ("row", .ref L.r), ("after", .d (.int a))]
  | false => .dct [(.inr "cells", .ref L.c), (.inr "row", .ref L.r), (.inr "after", .d (.int a))]
def dctO (L : Loc) (l : List (Int × Cel)) : Cell := .dct (l.map fun q => (.inl q.1, .ref (L.ix q.1)))
def lstO (l : List Int) : Cell := .lst (nums l)
/-- a notebook's places -/
def plc (p : Bool) (L : Loc) (m : Nb) : Pl := (L.b, topO p L m.after) :: (L.c, dctO L m.cells) :: (L.r, lstO m.row) :: m.cells.map fun q => (L.ix q.1, celO p q.2)
def foot (L : Loc) (m : Nb) : List Nat := L.b :: L.c :: L.r :: m.cells.map fun q => L.ix q.1
theorem feet_plc {p : Bool} {L : Loc} {m : Nb} : feet (plc p L m) = foot L m := by
  unfold feet plc foot
  simp [Function.comp]
section
variable {S : Store} {p : Bool} {L : Loc} {m : Nb} {n : Int} {c : Cel} {qs : Pl}
theorem Mem.top (h : Mem S (plc p L m ++ qs)) : S[L.b]? = some (some (topO p L m.after)) := h.at_ _ (.head _)
theorem Mem.dct (h : Mem S (plc p L m ++ qs)) : S[L.c]? = some (some (dctO L m.cells)) := h.at_ _ (.tail _ (.head _))
theorem Mem.lst (h : Mem S (plc p L m ++ qs)) : S[L.r]? = some (some (lstO m.row)) := h.at_ _ (.tail _ (.tail _ (.head _)))
theorem Mem.cel (h : Mem S (plc p L m ++ qs)) (hc : m.cel n = some c) : S[L.ix n]? = some (some (celO p c)) :=
  h.at_ (L.ix n, celO p c) (List.mem_append_left _ (.tail _ (.tail _ (.tail _ (List.mem_map.mpr ⟨(n, c), kget_mem hc, rfl⟩)))))
theorem dctO_get : kget (m.cells.map fun q => ((Sum.inl q.1 : Key), Val.ref (L.ix q.1))) (.inl n) = (m.cel n).map fun _ => .ref (L.ix n) := by
  unfold Nb.cel
  generalize m.cells = l
  induction l with
  | nil => rfl
  | cons a r ih =>
    rw [List.map_cons]
    unfold kget
    by_cases e : a.1 = n
    · rw [if_pos (by rw [e]), if_pos e, e]; rfl
    · rw [if_neg (fun z => e (Sum.inl.inj z)), if_neg e]; exact ih
/-! ### what is read -/
section
variable {h' : True}
theorem r_cells (h : Mem S (plc true L m ++ qs)) : gFld ["Notebook"] "cells" (.ref L.b) S = .ok (.ref L.c) S := fld_at h.top (.head _) rfl
theorem r_row (h : Mem S (plc true L m ++ qs)) : gFld ["Notebook"] "row" (.ref L.b) S = .ok (.ref L.r) S := fld_at h.top (.head _) rfl
theorem r_after (h : Mem S (plc true L m ++ qs)) : gFld ["Notebook"] "after" (.ref L.b) S = .ok (.d (.int m.after)) S := fld_at h.top (.head _) rfl
theorem r_cell (h : Mem S (plc p L m ++ qs)) (hc : m.cel n = some c) : gSub (.ref L.c) (.d (.int n)) S = .ok (.ref (L.ix n)) S :=
  sub_dct h.dct rfl (by rw [dctO_get, hc]; rfl)
theorem r_in {b : Bool} (h : Mem S (plc p L m ++ qs)) : gInA b (.d (.int n)) (.ref L.c) S = .ok (.d (.bl (if b then !(m.cel n).isSome else (m.cel n).isSome))) S := by
  rw [in_dct b h.dct rfl, dctO_get, Option.isSome_map]
theorem r_lines {cs : List Str} (hs : ("Cell" : Str) ∈ cs) (h : Mem S (plc true L m ++ qs)) (hc : m.cel n = some c) : gFld cs "lines" (.ref (L.ix n)) S = .ok (.d (enc c.src)) S := fld_at (h.cel hc) hs rfl
theorem r_lines2 (h : Mem S (plc true L m ++ qs)) (hc : m.cel n = some c) : gFld ["Record", "Cell"] "lines" (.ref (L.ix n)) S = .ok (.d (enc c.src)) S := r_lines (.tail _ (.head _)) h hc
theorem r_lines1 (h : Mem S (plc true L m ++ qs)) (hc : m.cel n = some c) : gFld ["Cell"] "lines" (.ref (L.ix n)) S = .ok (.d (enc c.src)) S := r_lines (.head _) h hc
theorem r_count (h : Mem S (plc true L m ++ qs)) (hc : m.cel n = some c) : gFld ["Cell"] "count" (.ref (L.ix n)) S = .ok (.d (.int c.count)) S := fld_at (h.cel hc) (.head _) rfl
theorem r_struck (h : Mem S (plc true L m ++ qs)) (hc : m.cel n = some c) : gFld ["Cell"] "struck" (.ref (L.ix n)) S = .ok (.d (.bl c.struck)) S := fld_at (h.cel hc) (.head _) rfl
theorem r_record (h : Mem S (plc true L m ++ qs)) (hc : m.cel n = some c) : gFld ["Cell"] "record" (.ref (L.ix n)) S = .ok (.d (rcdD true c.rcd)) S := fld_at (h.cel hc) (.head _) rfl
theorem r_ins {x : Str} (hx : (List.lookup x [(("cells" : Str), ()), ("row", ()), ("after", ())]).isNone = true) (h : Mem S (plc true L m ++ qs)) : isIns "Notebook" x (.ref L.b) S = true := by
  refine isIns_at h.top ?_
  have : ∀ l : List (Str × Val), (List.lookup x l).isNone = (List.lookup x (l.map fun q => (q.1, ()))).isNone := by
    intro l
    induction l with
    | nil => rfl
    | cons a r ih =>
      rw [List.map_cons, List.lookup_cons, List.lookup_cons]
      cases x == a.1 <;> simp [ih]
  rw [this]; exact hx
end
end
/-! ### records -/
section
variable {S : Store} {r : Rec}
theorem obj_fld {cs : List Str} {f c : Str} {ns : List Str} {l : List Dat} {x : Dat} (hc : c ∈ cs) (h : (ns.zip (l.map Val.d)).lookup f = some (.d x)) : gFld cs f (.d (.obj c ns l)) S = .ok (.d x) S := by
  unfold gFld insOf
  dsimp only
  rw [if_pos hc, h]
theorem q_lines : gFld ["Record", "Cell"] "lines" (.d (rcdD true (some r))) S = .ok (.d (enc r.src)) S := obj_fld (.head _) rfl
theorem q_asked : gFld ["Record"] "asked" (.d (rcdD true (some r))) S = .ok (.d (askedD r.asked)) S := obj_fld (.head _) rfl
theorem q_shown : gFld ["Record"] "shown" (.d (rcdD true (some r))) S = .ok (.d (intsD r.shown)) S := obj_fld (.head _) rfl
theorem q_sets : gFld ["Record"] "sets" (.d (rcdD true (some r))) S = .ok (.d (setsD r.sets)) S := obj_fld (.head _) rfl
theorem q_why : gFld ["Record"] "why" (.d (rcdD true (some r))) S = .ok (.d (whyD r.why)) S := obj_fld (.head _) rfl
theorem q_non {p : Bool} : isNon (.d (rcdD p (some r))) = false := by cases p <;> rfl
theorem q_nonN {p : Bool} : isNon (.d (rcdD p none)) = true := rfl
theorem optI_non {o : Option Int} : isNon (.d (optI o)) = o.isNone := by cases o <;> rfl
end
end Z
set_option Elab.async false
set_option linter.all false
set_option maxRecDepth 100000
set_option maxHeartbeats 4000000
namespace Z
open PySem L2 Evl NdefX LamX
section
variable {S : Store} {p : Bool} {L : Loc} {m : Nb} {n : Int} {c : Cel} {qs : Pl}
/-- what is read of a notebook -/
theorem r_nb (h : Mem S (plc true L m ++ qs)) : gFld ["Notebook"] "cells" (.ref L.b) S = .ok (.ref L.c) S ∧ gFld ["Notebook"] "row" (.ref L.b) S = .ok (.ref L.r) S ∧ gFld ["Notebook"] "after" (.ref L.b) S = .ok (.d (.int m.after)) S ∧
    (∀ b n, gInA b (.d (.int n)) (.ref L.c) S = .ok (.d (.bl (if b then !(m.cel n).isSome else (m.cel n).isSome))) S) :=
  ⟨r_cells h, r_row h, r_after h, fun _ _ => r_in h⟩
def methN : List Str := ["look_cell", "look_live", "look_place", "put", "change", "move", "drop", "strike", "cut", "join", "setter", "holds", "last_told", "fresh", "state", "demand", "stands", "told", "asker", "run", "run_all", "numbers", "source", "version", "view", "leans"]
theorem r_meth (h : Mem S (plc true L m ++ qs)) : ∀ x ∈ methN, isIns "Notebook" x (.ref L.b) S = true := fun x hx => r_ins (by
  have : ∀ x ∈ methN, (List.lookup x [(("cells" : Str), ()), ("row", ()), ("after", ())]).isNone = true := by decide +kernel
  exact this x hx) h
theorem r_m1 (h : Mem S (plc true L m ++ qs)) : isIns "Notebook" "look_cell" (.ref L.b) S = true ∧ isIns "Notebook" "look_live" (.ref L.b) S = true ∧ isIns "Notebook" "look_place" (.ref L.b) S = true ∧ isIns "Notebook" "put" (.ref L.b) S = true ∧ isIns "Notebook" "setter" (.ref L.b) S = true ∧ isIns "Notebook" "holds" (.ref L.b) S = true ∧ isIns "Notebook" "last_told" (.ref L.b) S = true ∧ isIns "Notebook" "fresh" (.ref L.b) S = true ∧ isIns "Notebook" "demand" (.ref L.b) S = true ∧ isIns "Notebook" "stands" (.ref L.b) S = true ∧ isIns "Notebook" "told" (.ref L.b) S = true ∧ isIns "Notebook" "asker" (.ref L.b) S = true ∧ isIns "Notebook" "drop" (.ref L.b) S = true := by
  have k := r_meth h
  exact ⟨k _ (List.mem_of_getElem? (i := 0) rfl), k _ (List.mem_of_getElem? (i := 1) rfl), k _ (List.mem_of_getElem? (i := 2) rfl), k _ (List.mem_of_getElem? (i := 3) rfl), k _ (List.mem_of_getElem? (i := 10) rfl), k _ (List.mem_of_getElem? (i := 11) rfl), k _ (List.mem_of_getElem? (i := 12) rfl), k _ (List.mem_of_getElem? (i := 13) rfl), k _ (List.mem_of_getElem? (i := 15) rfl), k _ (List.mem_of_getElem? (i := 16) rfl), k _ (List.mem_of_getElem? (i := 17) rfl), k _ (List.mem_of_getElem? (i := 18) rfl), k _ (List.mem_of_getElem? (i := 6) rfl)⟩
/-- .. of a cell -/
theorem r_cl (h : Mem S (plc true L m ++ qs)) (hc : m.cel n = some c) : gSub (.ref L.c) (.d (.int n)) S = .ok (.ref (L.ix n)) S ∧ gFld ["Record", "Cell"] "lines" (.ref (L.ix n)) S = .ok (.d (enc c.src)) S ∧ gFld ["Cell"] "lines" (.ref (L.ix n)) S = .ok (.d (enc c.src)) S ∧ gFld ["Cell"] "count" (.ref (L.ix n)) S = .ok (.d (.int c.count)) S ∧ gFld ["Cell"] "struck" (.ref (L.ix n)) S = .ok (.d (.bl c.struck)) S ∧ gFld ["Cell"] "record" (.ref (L.ix n)) S = .ok (.d (rcdD true c.rcd)) S :=
  ⟨r_cell h hc, r_lines2 h hc, r_lines1 h hc, r_count h hc, r_struck h hc, r_record h hc⟩
end
/-! ## a notebook in order -/
theorem NOk.cel {m : Nb} (o : NOk m) {n : Int} (hn : n ∈ m.row) : ∃ c, m.cel n = some c := by
  obtain ⟨c, h, _⟩ := kget_some ((o.mem n).mp hn)
  exact ⟨c, h⟩
theorem NOk.row_of {m : Nb} (o : NOk m) {n : Int} {c : Cel} (h : m.cel n = some c) : n ∈ m.row := (o.mem n).mpr (List.mem_map.mpr ⟨_, kget_mem h, rfl⟩)
theorem NOk.lowc {m : Nb} (o : NOk m) {n : Int} {c : Cel} (h : m.cel n = some c) : 0 ≤ n ∧ n < m.after := o.low _ (kget_mem h)
theorem NOk.srcc {m : Nb} (o : NOk m) {n : Int} {c : Cel} (h : m.cel n = some c) : okSrc c.src := o.src _ (kget_mem h)
theorem NOk.len {m : Nb} (o : NOk m) : m.cells.length = m.row.length := by
  have h : (m.cells.map (·.1)).Perm m.row := (List.perm_ext_iff_of_nodup o.key o.nod).mpr fun a => (o.mem a).symm
  have := h.length_eq
  rwa [List.length_map] at this
theorem take_posOf {l : List Int} {n : Int} : ∀ {k : Nat}, posOf n l = some k → l.take k = l.takeWhile fun j => decide (j ≠ n) := by
  unfold posOf
  induction l with
  | nil => intro k h; simp at h
  | cons a r ih =>
    intro k h
    rw [List.findIdx?_cons] at h
    by_cases e : a = n
    · subst e; simp at h; subst h; simp
    · have hb : (a == n) = false := by simpa using e
      simp only [hb, Bool.false_eq_true, if_false] at h
      cases q : List.findIdx? (fun x => x == n) r with
      | none => rw [q] at h; cases h
      | some i =>
        rw [q] at h
        simp at h
        subst h
        rw [List.take_succ_cons, List.takeWhile_cons, ih q]
        simp [e]
theorem posOf_tw {l : List Int} {n : Int} (h : n ∈ l) : ∃ k, posOf n l = some k ∧ l.take k = l.takeWhile (fun j => decide (j ≠ n)) ∧ k < l.length := by
  obtain ⟨j, hj, hl, _⟩ := posOf_mem h
  exact ⟨j, hj, take_posOf hj, hl⟩
/-- loops that only choose -/
theorem filter_last {α : Type} (p : α → Bool) : ∀ (l : List α) (o : Option α), l.foldl (fun o x => if p x = true then some x else o) o = ((l.filter p).getLast?).or o
  | [], o => by simp
  | x :: r, o => by
    rw [List.foldl_cons, filter_last p r]
    by_cases h : p x = true
    · rw [if_pos h, List.filter_cons_of_pos h, List.getLast?_cons]
      cases (r.filter p).getLast? <;> simp
    · rw [if_neg h, List.filter_cons_of_neg h]
/-! ## comprehensions and loops over typed lists -/
section
variable {α : Type} {e e1 : Envr} {S S1 : Store} {it : IF} {tg : GF} {tt : BF} {ef : EF} {vs : List Nat} {g : Option Nat} {u : α → Val} {xs : List α}
theorem compL_of {l0 : List Val} {env : Envr} (hg : gd g l0 S) {P : α → Bool} {Fv : α → Val} : ∀ {xs : List α}, (∀ x ∈ xs, ∃ e1, tg (u x) env = some e1 ∧ tt e1 S = .ok (P x) S ∧ (P x = true → ef e1 S = .ok (Fv x) S)) → compL tg tt ef env g l0 (xs.map u) S = .ok ((xs.filter P).map Fv) S
  | [], _ => by rw [List.map_nil]; unfold compL; rw [if_pos hg]; rfl
  | x :: r, h => by
    obtain ⟨e1, h1, h2, h3⟩ := h x (.head _)
    have ih := compL_of hg (xs := r) fun y m => h y (.tail _ m)
    rw [List.map_cons]
    unfold compL
    rw [if_pos hg, h1]
    dsimp only
    rw [h2]
    show (if P x = true then rbindx (ef e1 S) _ else compL tg tt ef env g l0 (r.map u) S) = _
    rw [List.filter_cons]
    cases hp : P x with
    | true =>
      rw [if_pos rfl, if_pos rfl, h3 hp]
      show rbindx (compL tg tt ef env g l0 (r.map u) S) _ = _
      rw [ih]; rfl
    | false => rw [if_neg (by simp), if_neg (by simp), ih]
theorem comp_of {P : α → Bool} {Fv : α → Val} (hi : it e S = .ok (xs.map u, g) S) (hg : gd g (xs.map u) S) (hl : xs.length ≤ 100000) (h : ∀ x ∈ xs, ∃ e1, tg (u x) (wipeE e vs) = some e1 ∧ tt e1 S = .ok (P x) S ∧ (P x = true → ef e1 S = .ok (Fv x) S)) :
    compF it tg tt ef vs e S = .ok ((xs.filter P).map Fv) S := by
  unfold compF
  rw [hi]
  show (if (xs.map u).length ≤ 100000 then rbindx (compL tg tt ef (wipeE e vs) g (xs.map u) (xs.map u) S) _ else _) = _
  rw [if_pos (by rw [List.length_map]; exact hl), compL_of hg h]; rfl
theorem comp_al {Fv : α → Val} (hi : it e S = .ok (xs.map u, g) S) (hg : gd g (xs.map u) S) (hl : xs.length ≤ 100000) (h : ∀ x ∈ xs, ∃ e1, tg (u x) (wipeE e vs) = some e1 ∧ ef e1 S = .ok (Fv x) S) :
    compF it tg tYesF ef vs e S = .ok (xs.map Fv) S := by
  rw [comp_of (P := fun _ => true) (Fv := Fv) hi hg hl fun x hx => by
    obtain ⟨e1, h1, h2⟩ := h x hx
    exact ⟨e1, h1, rfl, fun _ => h2⟩, List.filter_eq_self.mpr fun _ _ => rfl]
theorem for_ty {body : SF} (I : Nat → Envr → Store → Prop) (hi : it e S = .ok (xs.map u, g) S1) (hg : ∀ i e S, I i e S → gd g (xs.map u) S) (h0 : I 0 e S1) (hb : ∀ j x e S, xs[j]? = some x → I j e S → ∃ e1, tg (u x) e = some e1 ∧ ∃ e2 S2, (body e1 S = .nx e2 S2 ∨ body e1 S = .ct e2 S2) ∧ I (j + 1) e2 S2) :
    ∃ e' S', sFor it tg body e S = .nx e' S' ∧ I xs.length e' S' := by
  have := for_inv (it := it) (tg := tg) (e := e) (S := S) (body := body) I hi hg h0 fun j x e S hx hI => by
    rw [List.getElem?_map] at hx
    obtain ⟨y, hy, rfl⟩ := Option.map_eq_some_iff.mp hx
    exact hb j y e S hy hI
  rwa [List.length_map] at this
noncomputable def forK (tg : GF) (body : SF) (l r : List Val) : SRes → SRes
  | .nx e S => forL tg body none l r e S
  | .ct e S => forL tg body none l r e S
  | .bk e S => .nx e S
  | r => r
theorem x_forN {body : SF} : sFor it tg body e S = sbind e (it e S) fun x S => forL tg body x.2 x.1 x.1 e S := rfl
theorem x_fLn {body : SF} {l : List Val} : forL tg body none l [] e S = .nx e S := by unfold forL; exact if_pos trivial
theorem x_fLc {body : SF} {l r : List Val} {x : Val} (h : tg x e = some e1) : forL tg body none l (x :: r) e S = forK tg body l r (body e1 S) := by
  conv => lhs; unfold forL
  rw [if_pos (show gd none l S from trivial), h]
  dsimp only
  cases body e1 S <;> rfl
theorem x_fKn {body : SF} {l r : List Val} : forK tg body l r (.nx e S) = forL tg body none l r e S := rfl
theorem x_fKr {body : SF} {l r : List Val} {x : Val} : forK tg body l r (.rt x S) = .rt x S := rfl
theorem x_fKx {body : SF} {l r : List Val} {x : Exn} : forK tg body l r (.exc x e S) = .exc x e S := rfl
end
/-! ## rows -/
section
variable {S : Store}
def rowV (r : Rw) : Val := .d (encR r)
theorem enc_it {e : Envr} {f : EF} {l : List Rw} (h : f e S = .ok (.d (enc l)) S) : iAny f e S = .ok (l.map rowV, none) S := by
  have := iAny_tup (e := e) (S := S) (S1 := S) (f := f) (m := l.map encR) h
  rw [this, List.map_map]; rfl
theorem row_0s {x : Str} {s : Sm} : gSub (.d (encR (.set x s))) (.d (.int 0)) S = .ok (.d (.str "set")) S := sub_at (i := 0) (l := [Dat.str "set", .str x, encS s]) rfl
theorem row_1s {x : Str} {s : Sm} : gSub (.d (encR (.set x s))) (.d (.int 1)) S = .ok (.d (.str x)) S := sub_at (i := 1) (l := [Dat.str "set", .str x, encS s]) rfl
theorem row_0w {s : Sm} : gSub (.d (encR (.shw s))) (.d (.int 0)) S = .ok (.d (.str "show")) S := sub_at (i := 0) (l := [Dat.str "show", encS s]) rfl
theorem row_1w {s : Sm} : gSub (.d (encR (.shw s))) (.d (.int 1)) S = .ok (.d (encS s)) S := sub_at (i := 1) (l := [Dat.str "show", encS s]) rfl
theorem sub_tupN {l : List Dat} {i : Nat} {x : Dat} (hi : 1 ≤ i) (h : l[l.length - i]? = some x) (hl : i ≤ l.length) : gSub (.d (.tup l)) (.d (.int (-(i : Int)))) S = .ok (.d x) S := by
  unfold gSub gSel
  rw [if_neg (by simp [isDct, dctOf])]
  have h1 : L2.atI (l.map Val.d) (-(i : Int)) = some (.d x) := by
    rw [atI_map]
    unfold L2.atI L2.ixN
    rw [if_neg (by omega), if_pos (by omega)]
    have : (-(i : Int) + (l.length : Nat)).toNat = l.length - i := by omega
    simp only [Option.bind_some, this, h, Option.map_some]
  show (match L2.atI (l.map Val.d) (-(i : Int)) with
    | some z => Res.ok z S
    | none => .stuck) = _
  rw [h1]
theorem row_last {r : Rw} : gSub (.d (encR r)) (.d (.int (-1))) S = .ok (.d (encS r.sum)) S := by
  cases r with
  | set x s => exact sub_tupN (i := 1) (l := [Dat.str "set", .str x, encS s]) (Nat.le_refl _) rfl (by simp)
  | shw s => exact sub_tupN (i := 1) (l := [Dat.str "show", encS s]) (Nat.le_refl _) rfl (by simp)
def isSet : Rw → Bool
  | .set _ _ => true
  | .shw _ => false
theorem row_0 {r : Rw} : gSub (.d (encR r)) (.d (.int 0)) S = .ok (.d (.str (if isSet r then "set" else "show"))) S := by
  cases r with
  | set x s => exact row_0s
  | shw s => exact row_0w
theorem show_set : decide ((("show" : Str)) = ("set" : Str)) = false := by decide +kernel
theorem setsOf_eq (l : List Rw) : setsOf l = (l.filter isSet).filterMap setName := by
  unfold setsOf
  induction l with
  | nil => rfl
  | cons a r ih =>
    cases a with
    | set x s => rw [List.filter_cons_of_pos (by rfl), List.filterMap_cons, List.filterMap_cons, ih]
    | shw s => rw [List.filter_cons_of_neg (by simp [isSet]), List.filterMap_cons, ih]; rfl
end
/-! ## more of what is read -/
section
variable {S : Store}
theorem r_index {r : Nat} {l : List Int} (h : S[r]? = some (some (lstO l))) {n : Int} {k : Nat} (hk : posOf n l = some k) : gIndex (.ref r) [.d (.int n)] S = .ok (.d (.int (k : Nat))) S := by
  unfold gIndex
  rw [lst_at h]
  dsimp only [intOf]
  rw [show numsOf (nums l) = some l by unfold nums; rw [nums_map]]
  dsimp only
  rw [hk]; rfl
theorem in_strsL {s : Str} {l : List Str} (n : Bool) : gInA n (.d (.str s)) (.d (.lst (l.map .str))) S = .ok (.d (.bl (if n then !(decide (s ∈ l)) else decide (s ∈ l)))) S := by
  show gSel isDct2 (gDin n) (gIn n) _ _ S = _
  unfold gSel
  rw [if_neg (by show ¬ (dctOf S (.d (.lst _))).isSome = true; simp [dctOf])]
  unfold gIn inD
  show (match (if flat (.d (.str s)) = true ∧ ((l.map Dat.str).map Val.d).all flat = true then some (inF (.d (.str s)) ((l.map Dat.str).map Val.d)) else _) with
    | some b => okd (.bl (if n then !b else b)) S
    | none => .stuck) = _
  rw [if_pos ⟨rfl, by rw [List.map_map, List.all_map]; exact List.all_eq_true.mpr fun _ _ => rfl⟩]
  have : inF (.d (.str s)) ((l.map Dat.str).map Val.d) = decide (s ∈ l) := by
    unfold inF
    rw [List.map_map, List.any_map, Bool.eq_iff_iff, List.any_eq_true, decide_eq_true_eq]
    constructor
    · rintro ⟨y, hy, e⟩
      have e' : (y == s) = true := e
      rw [beq_iff_eq] at e'
      exact e' ▸ hy
    · intro h
      exact ⟨s, h, by show (s == s) = true; simp⟩
  show okd (.bl (if n then !(inF (.d (.str s)) ((l.map Dat.str).map Val.d)) else inF (.d (.str s)) ((l.map Dat.str).map Val.d))) S = _
  rw [this]; rfl
/-- in a list that is changed -/
theorem in_live {i : Nat} {l : List Int} (h : S[i]? = some (some (lstO l))) {a : Int} (n : Bool) : gInA n (.d (.int a)) (.ref i) S = .ok (.d (.bl (if n then !(decide (a ∈ l)) else decide (a ∈ l)))) S := by
  have hd : dctOf S (.ref i) = none := by
    show (match S[i]? with | some (some (.dct l)) => some l | _ => none) = _
    rw [h]; rfl
  have hq : seqOf S (.ref i) = some (nums l) := by unfold seqOf; rw [lst_at h]
  show gSel isDct2 (gDin n) (gIn n) _ _ S = _
  unfold gSel
  rw [if_neg (by unfold isDct2; rw [hd]; simp)]
  unfold gIn inD
  rw [hq]
  show (match (if flat (.d (.int a)) = true ∧ (nums l).all flat = true then some (inF (.d (.int a)) (nums l)) else _) with
    | some b => okd (.bl (if n then !b else b)) S
    | none => .stuck) = _
  rw [if_pos ⟨rfl, by unfold nums; rw [List.all_map]; exact List.all_eq_true.mpr fun _ _ => rfl⟩]
  have : inF (.d (.int a)) (nums l) = decide (a ∈ l) := by
    unfold inF nums
    rw [List.any_map, Bool.eq_iff_iff, List.any_eq_true, decide_eq_true_eq]
    constructor
    · rintro ⟨y, hy, e⟩
      have e' : (y == a) = true := e
      rw [beq_iff_eq] at e'
      exact e' ▸ hy
    · intro h
      exact ⟨a, h, by show (a == a) = true; simp⟩
  show okd (.bl (if n then !(inF (.d (.int a)) (nums l)) else inF (.d (.int a)) (nums l))) S = _
  rw [this]; rfl
theorem app_live {i : Nat} {l : List Int} (h : S[i]? = some (some (lstO l))) (hl : l.length < 100000) {a : Int} : gAppend (.ref i) [.d (.int a)] S = .ok (.d .non) (S.set i (some (lstO (l ++ [a])))) := by
  unfold gAppend
  rw [cell_at h]
  dsimp only
  rw [if_pos (by unfold nums; rw [List.length_map]; exact hl)]
  unfold lstO nums
  rw [List.map_append]; rfl
/-- a frozen dict of numbers by names -/
theorem dctOf_sets {l : List (Str × Int)} : dctOf S (.d (setsD l)) = some (l.map fun q => (Sum.inr q.1, .d (.int q.2))) := by
  show some (List.zip _ _) = _
  congr 1
  induction l with
  | nil => rfl
  | cons a r ih => rw [List.map_cons, List.map_cons, List.map_cons, List.zip_cons_cons, ih, List.map_cons]
theorem kget_sets {l : List (Str × Int)} {x : Str} : kget (l.map fun q => ((Sum.inr q.1 : Key), Val.d (.int q.2))) (Sum.inr x) = (kget l x).map fun i => .d (.int i) :=
  kget_map (κ := Str) (μ := Key) Sum.inr (fun a b e => Sum.inr.inj e) (fun q : Int => Val.d (.int q)) l x
theorem get2_sets {l : List (Str × Int)} {x : Str} : gDget2 (.d (setsD l)) (.d (.str x)) (.d .non) S = .ok (.d (optI (kget l x))) S := by
  unfold gDget2
  rw [dctOf_sets]
  dsimp only [keyOf]
  rw [kget_sets]
  cases kget l x <;> rfl
theorem isD_sets {l : List (Str × Int)} : (dctOf S (.d (setsD l))).isSome = true := by rw [dctOf_sets]; rfl
theorem ne_optI {a b : Option Int} : gNe (.d (optI a)) (.d (optI b)) S = .ok (.d (.bl (!decide (a = b)))) S := by
  cases a with
  | none => cases b with
    | none => rfl
    | some j => rfl
  | some i => cases b with
    | none => rfl
    | some j =>
      show Res.ok (Val.d (.bl (!decide (i = j)))) S = _
      rw [show decide (some i = some j) = decide (i = j) by simp]
end
/-- the last that is chosen -/
theorem last_step {α : Type} {l : List α} {p : α → Bool} {j : Nat} {o : α} (h : l[j]? = some o) : ((l.take (j + 1)).filter p).getLast? = if p o = true then some o else ((l.take j).filter p).getLast? := by
  rw [List.take_succ, h]
  simp only [Option.toList_some, List.filter_append]
  by_cases q : p o = true
  · rw [if_pos q, List.filter_cons_of_pos q, List.filter_nil, List.getLast?_append]; simp
  · rw [if_neg q, List.filter_cons_of_neg q, List.filter_nil, List.append_nil]
theorem x_fLN {e : Envr} {S : Store} {body : SF} {l r : List Val} {x : Val} {i : Nat} : forL (gN i) body none l (x :: r) e S = forK (gN i) body l r (body (e.set i (some x)) S) := x_fLc rfl
/-! ## those that are asked -/
def failX (w : Why) : Exn := ⟨"Failed", some [("why", whyD (some w))]⟩
def ansP (x : Str) (o : Option Int) (S : Store) : Res Val := match o with
  | some v => .ok (.d (.int v)) S
  | none => .exc (failX ("lacks", some x)) S
structure AskSp {σ : Type} (sem : Nat → Nat → VF) (N0 j : Nat) (ans : Str → Option Int → Store → Res Val) (ask : σ → Str → Option Int × σ) (pl : σ → Pl) (ok : Nat → σ → Prop) (fs : List Nat) (cl : Cell) : Prop where
  feet : ∀ z s, ok z s → feet (pl s) = fs
  out : j ∉ fs
  mono : ∀ z z' s, z ≤ z' → ok z' s → ok z s
  num : ∀ z s x v, ok z s → (ask s x).1 = some v → 0 ≤ v ∧ v ≤ 9999
  blw : ∀ z s S, ok z s → Mem S (pl s) → ∀ q ∈ pl s, belowC S.length q.2 = true
  go : ∀ n z s S x, N0 ≤ n → ok (z + 1) s → Mem S (pl s) → S[j]? = some (some cl) → ∃ S', runC (sem n) j [.d (.str x)] S = ans x (ask s x).1 S' ∧ Mem S' (pl (ask s x).2) ∧ ok z (ask s x).2 ∧ Kept fs S S' ∧ S'.length = S.length
  clo : ∃ id ys, cl = .clo id ys
theorem AskSp.isClo {σ : Type} {sem : Nat → Nat → VF} {N0 j : Nat} {ans : Str → Option Int → Store → Res Val} {ask : σ → Str → Option Int × σ} {pl : σ → Pl} {ok : Nat → σ → Prop} {fs : List Nat} {cl : Cell} (A : AskSp sem N0 j ans ask pl ok fs cl) {S : Store} (h : S[j]? = some (some cl)) : isClo S j = true := by
  obtain ⟨id, ys, rfl⟩ := A.clo
  unfold Z.isClo; rw [h]
theorem AskSp.trim {σ : Type} {sem : Nat → Nat → VF} {N0 j : Nat} {ans : Str → Option Int → Store → Res Val} {ask : σ → Str → Option Int × σ} {pl : σ → Pl} {ok : Nat → σ → Prop} {fs : List Nat} {cl : Cell} (A : AskSp sem N0 j ans ask pl ok fs cl) {S S' : Store} {z : Nat} {s : σ} (o : ok z s) (h : Mem S' (pl s)) (k : Kept fs S S') (hl : S'.length = S.length) (U : Store) : trim S (S' ++ U) = some S' := by
  refine trim_mem h hl (fun i hi n => k.at_ i hi (by rwa [A.feet z s o] at n)) fun q hq => ?_
  rw [← hl]
  exact A.blw z s S' o h q hq
theorem AskSp.trim0 {σ : Type} {sem : Nat → Nat → VF} {N0 j : Nat} {ans : Str → Option Int → Store → Res Val} {ask : σ → Str → Option Int × σ} {pl : σ → Pl} {ok : Nat → σ → Prop} {fs : List Nat} {cl : Cell} (A : AskSp sem N0 j ans ask pl ok fs cl) {S S' : Store} {z : Nat} {s : σ} (o : ok z s) (h : Mem S' (pl s)) (k : Kept fs S S') (hl : S'.length = S.length) : Z.trim S S' = some S' := by
  have := A.trim o h k hl []
  rwa [List.append_nil] at this
/-- a dict of names with numbers -/
def mineO (l : List (Str × Int)) : Cell := .dct (l.map fun q => (Sum.inr q.1, .d (.int q.2)))
theorem mine_in {S : Store} {i : Nat} {l : List (Str × Int)} (h : S[i]? = some (some (mineO l))) (x : Str) : gInA false (.d (.str x)) (.ref i) S = .ok (.d (.bl (kget l x).isSome)) S := by
  rw [in_dct false h rfl, kget_sets, Option.isSome_map]; rfl
theorem mine_sub {S : Store} {i : Nat} {l : List (Str × Int)} (h : S[i]? = some (some (mineO l))) {x : Str} {v : Int} (hv : kget l x = some v) : gSub (.ref i) (.d (.str x)) S = .ok (.d (.int v)) S :=
  sub_dct h rfl (by rw [kget_sets, hv]; rfl)
theorem kput_map {κ μ α β : Type} [DecidableEq κ] [DecidableEq μ] (f : κ → μ) (hf : ∀ a b, f a = f b → a = b) (g : α → β) (l : List (κ × α)) (k : κ) (x : α) : kput (l.map fun p => (f p.1, g p.2)) (f k) (g x) = (kput l k x).map fun p => (f p.1, g p.2) := by
  have e : ((l.map fun p => (f p.1, g p.2)).any fun p => decide (p.1 = f k)) = l.any fun p => decide (p.1 = k) := by
    rw [List.any_map]
    congr 1
    funext p
    show decide (f p.1 = f k) = _
    by_cases q : p.1 = k
    · rw [q]; simp
    · rw [decide_eq_false q, decide_eq_false fun z => q (hf _ _ z)]
  unfold kput
  rw [e]
  split
  · rw [List.map_map, List.map_map]
    refine List.map_congr_left fun p _ => ?_
    show (if f p.1 = f k then (f p.1, g x) else (f p.1, g p.2)) = (fun p => (f p.1, g p.2)) (if p.1 = k then (p.1, x) else p)
    by_cases q : p.1 = k
    · rw [if_pos (by rw [q]), if_pos q]
    · rw [if_neg (fun z => q (hf _ _ z)), if_neg q]
  · simp
theorem mine_put {S : Store} {i : Nat} {l : List (Str × Int)} (h : S[i]? = some (some (mineO l))) (hl : l.length < 100000) (x : Str) (v : Int) : gDput (.ref i) (.d (.str x)) (.d (.int v)) S = some (S.set i (some (mineO (kput l x v)))) := by
  rw [dput_at h rfl (by rw [List.length_map]; exact hl), kput_map (κ := Str) (μ := Key) Sum.inr (fun a b e => Sum.inr.inj e) (fun q : Int => Val.d (.int q)) l x v]; rfl
/-! ### sums -/
section
variable {S : Store} {w : Str} {a b t : Sm}
theorem op_0 : gSub (.d (encS (.op w a b))) (.d (.int 0)) S = .ok (.d (.str w)) S := sub_at (i := 0) (l := [Dat.str w, encS a, encS b]) rfl
theorem op_1 : gSub (.d (encS (.op w a b))) (.d (.int 1)) S = .ok (.d (encS a)) S := sub_at (i := 1) (l := [Dat.str w, encS a, encS b]) rfl
theorem op_2 : gSub (.d (encS (.op w a b))) (.d (.int 2)) S = .ok (.d (encS b)) S := sub_at (i := 2) (l := [Dat.str w, encS a, encS b]) rfl
theorem it_0 : gSub (.d (encS (.ite t a b))) (.d (.int 0)) S = .ok (.d (.str "if")) S := sub_at (i := 0) (l := [Dat.str "if", encS t, encS a, encS b]) rfl
theorem it_1 : gSub (.d (encS (.ite t a b))) (.d (.int 1)) S = .ok (.d (encS t)) S := sub_at (i := 1) (l := [Dat.str "if", encS t, encS a, encS b]) rfl
theorem it_2 : gSub (.d (encS (.ite t a b))) (.d (.int 2)) S = .ok (.d (encS a)) S := sub_at (i := 2) (l := [Dat.str "if", encS t, encS a, encS b]) rfl
theorem it_3 : gSub (.d (encS (.ite t a b))) (.d (.int 3)) S = .ok (.d (encS b)) S := sub_at (i := 3) (l := [Dat.str "if", encS t, encS a, encS b]) rfl
theorem op_str : gIsi "str" (.d (encS (.op w a b))) S = .ok (.d (.bl false)) S := rfl
theorem it_str : gIsi "str" (.d (encS (.ite t a b))) S = .ok (.d (.bl false)) S := rfl
theorem op_tup : gIsi "tuple" (.d (encS (.op w a b))) S = .ok (.d (.bl true)) S := rfl
theorem it_tup : gIsi "tuple" (.d (encS (.ite t a b))) S = .ok (.d (.bl true)) S := rfl
theorem word_if {w : Str} (h : w ∈ words5) : decide (w = "if") = false := by
  have : ∀ w ∈ words5, decide (w = "if") = false := by
    intro w hw
    simp only [words5, List.mem_cons, List.not_mem_nil, or_false] at hw
    rcases hw with rfl | rfl | rfl | rfl | rfl <;> decide +kernel
  exact this w h
end
/-! ## memory, cut -/
section
variable {S S' T : Store} {ps : Pl} {n : Nat} {f : List Nat}
theorem Mem.take (h : Mem S ps) (k : ∀ i ∈ feet ps, i < n) : Mem (S.take n) ps := ⟨h.nd, fun q hq => by
  rw [List.getElem?_take_of_lt (k _ (List.mem_map.mpr ⟨q, hq, rfl⟩))]; exact h.at_ q hq⟩
theorem trim_take (h : Mem S' ps) (hf : ∀ i ∈ feet ps, i < S.length) (hl : S.length ≤ S'.length) (hk : ∀ i, i < S.length → i ∉ feet ps → S'[i]? = S[i]?) (hb : Mem (S'.take S.length) ps → (S'.take S.length).length = S.length → ∀ q ∈ ps, belowC S.length q.2 = true) :
    trim S S' = some (S'.take S.length) ∧ Mem (S'.take S.length) ps ∧ Kept (feet ps) S (S'.take S.length) ∧ (S'.take S.length).length = S.length := by
  have l : (S'.take S.length).length = S.length := by rw [List.length_take]; omega
  have M : Mem (S'.take S.length) ps := h.take hf
  have t : ∀ i, i < S.length → (S'.take S.length)[i]? = S'[i]? := fun i hi => List.getElem?_take_of_lt hi
  refine ⟨?_, M, ⟨by omega, fun i hi n => (t i hi).trans (hk i hi n)⟩, l⟩
  have := trim_mem (S := S) (U := S'.drop S.length) M l (fun i hi n => (t i hi).trans (hk i hi n)) (hb M l)
  rwa [List.take_append_drop] at this
end
section
variable {e e' e2 : Envr} {S S' S2 : Store} {body suite : SF} {ct : Str → Option Bool} {i j : Nat} {f : Str}
theorem z_tryAsN (h : body e S = .nx e' S') : sTryAs ct body i j f suite e S = .nx e' S' := by unfold sTryAs; rw [h]
theorem z_tryAsX {z : Exn} {l : List (Str × Dat)} {y : Dat} (h : body e S = .exc z e' S') (hc : ct z.cls = some true) (hf : z.fs = some l) (hl : l.lookup f = some y) (hi : i < e'.length) (hs : suite ((e'.set i none).set j (some (.d y))) S' = .nx e2 S2) : sTryAs ct body i j f suite e S = .nx (e2.set i none) S2 := by
  unfold sTryAs; rw [h]; dsimp only; rw [hc]; dsimp only; rw [hf]; dsimp only; rw [hl]; dsimp only; rw [if_pos hi, hs]; rfl
theorem rfrz_ref {r : Nat} {c : Cell} {y : Dat} (h : S[r]? = some (some c)) (hy : frz c = some y) : rfrz (.ref r) S = .ok (.d y) (S.set r none) := by
  unfold rfrz; dsimp only; rw [h]; dsimp only; rw [hy]
theorem frz_ints {l : List Int} : frz (lstO l) = some (intsD l) := by
  unfold lstO frz intsD nums
  dsimp only
  rw [show (l.map fun n => Val.d (.int n)) = (l.map Dat.int).map .d by rw [List.map_map]; rfl, dats_map]; rfl
theorem frz_mine {l : List (Str × Int)} : frz (mineO l) = some (setsD l) := by
  unfold mineO frz setsD
  dsimp only
  have e1 : (l.map fun q => ((Sum.inr q.1 : Key), Val.d (.int q.2))).map (·.2) = (l.map fun q => Dat.int q.2).map .d := by rw [List.map_map, List.map_map]; rfl
  have e2 : (l.map fun q => ((Sum.inr q.1 : Key), Val.d (.int q.2))).map (·.1) = l.map fun q => Sum.inr q.1 := by rw [List.map_map]; rfl
  rw [e1, e2, dats_map]; rfl
theorem kput_len {κ α : Type} [DecidableEq κ] {l : List (κ × α)} {k : κ} {x : α} : (kput l k x).length ≤ l.length + 1 := by
  unfold kput; split <;> simp
theorem kput_mem {κ α : Type} [DecidableEq κ] {l : List (κ × α)} {k : κ} {x : α} {q : κ × α} (h : q ∈ kput l k x) : q ∈ l ∨ q.2 = x := by
  unfold kput at h
  split at h
  · obtain ⟨p, hp, e⟩ := List.mem_map.mp h
    split at e
    · exact .inr (by rw [← e])
    · exact .inl (by rw [← e]; exact hp)
  · rcases List.mem_append.mp h with h | h
    · exact .inl h
    · rw [List.mem_singleton] at h; exact .inr (by rw [h])
end
/-! ## the memory of a run -/
def goodO (l : List Int) : Cell := .dct (l.map fun n => (Sum.inl n, .d (.bl true)))
def askO (l : List (Str × Option Int)) : Cell := .lst (l.map fun p => .d (askD p))
def plD (L : Loc) (s : De) (g rn : Nat) : Pl := plc true L s.m ++ [(g, goodO s.good), (rn, lstO s.ran)]
def fsD (L : Loc) (m : Nb) (g rn : Nat) : List Nat := foot L m ++ [g, rn]
theorem feet_plD {L : Loc} {s : De} {g rn : Nat} : feet (plD L s g rn) = fsD L s.m g rn := by
  unfold plD feet
  rw [List.map_append, show (plc true L s.m).map (·.1) = foot L s.m from feet_plc]; rfl
section
variable {S : Store} {p : Bool} {L : Loc} {m : Nb} {qs : Pl}
theorem blw_plc (h : Mem S (plc p L m ++ qs)) : ∀ q ∈ plc p L m, belowC S.length q.2 = true := by
  have lt : ∀ i ∈ foot L m, i < S.length := fun i hi => h.left.lt i (by rw [feet_plc]; exact hi)
  have lc := lt L.c (.tail _ (.head _))
  have lr := lt L.r (.tail _ (.tail _ (.head _)))
  intro q hq
  rcases List.mem_cons.mp hq with rfl | hq
  · cases p <;> simp [topO, belowC, belows, below, lc, lr]
  · rcases List.mem_cons.mp hq with rfl | hq
    · show belows S.length _ = true
      rw [List.map_map]
      refine belows_iff.mpr fun x hx => ?_
      obtain ⟨q, hq, rfl⟩ := List.mem_map.mp hx
      exact below_ref (lt _ (.tail _ (.tail _ (.tail _ (List.mem_map.mpr ⟨q, hq, rfl⟩)))))
    · rcases List.mem_cons.mp hq with rfl | hq
      · refine belows_iff.mpr fun x hx => ?_
        unfold nums at hx
        obtain ⟨n, _, rfl⟩ := List.mem_map.mp hx; rfl
      · obtain ⟨q, hq, rfl⟩ := List.mem_map.mp hq
        cases p <;> rfl
theorem blw_good {n : Nat} {l : List Int} : belowC n (goodO l) = true := by
  show belows n ((l.map fun n => ((Sum.inl n : Key), Val.d (.bl true))).map (·.2)) = true
  rw [List.map_map]
  refine belows_iff.mpr fun x hx => ?_
  obtain ⟨q, _, rfl⟩ := List.mem_map.mp hx; rfl
theorem blw_lst {n : Nat} {l : List Int} : belowC n (lstO l) = true := by
  refine belows_iff.mpr fun x hx => ?_
  unfold nums at hx
  obtain ⟨q, _, rfl⟩ := List.mem_map.mp hx; rfl
theorem blw_ask {n : Nat} {l : List (Str × Option Int)} : belowC n (askO l) = true := by
  refine belows_iff.mpr fun x hx => ?_
  obtain ⟨q, _, rfl⟩ := List.mem_map.mp hx; rfl
theorem good_in {i : Nat} {l : List Int} (h : S[i]? = some (some (goodO l))) (n : Int) : gInA false (.d (.int n)) (.ref i) S = .ok (.d (.bl (decide (n ∈ l)))) S := by
  rw [in_dct false h rfl]
  have : (kget (l.map fun n => ((Sum.inl n : Key), Val.d (.bl true))) (Sum.inl n)).isSome = decide (n ∈ l) := by
    rw [Bool.eq_iff_iff, kget_iff, List.map_map, decide_eq_true_eq]
    constructor
    · intro h
      obtain ⟨q, hq, e⟩ := List.mem_map.mp h
      have : q = n := Sum.inl.inj e
      exact this ▸ hq
    · intro h; exact List.mem_map.mpr ⟨n, h, rfl⟩
  rw [this]; rfl
theorem good_put {i : Nat} {l : List Int} (h : S[i]? = some (some (goodO l))) (hl : l.length < 100000) {n : Int} (hn : n ∉ l) : gDput (.ref i) (.d (.int n)) (.d (.bl true)) S = some (S.set i (some (goodO (l ++ [n])))) := by
  rw [dput_at h rfl (by rw [List.length_map]; exact hl), kput_new (by
    rw [List.map_map]
    intro hm
    obtain ⟨q, hq, e⟩ := List.mem_map.mp hm
    have : q = n := Sum.inl.inj e
    exact hn (this ▸ hq))]
  unfold goodO
  rw [List.map_append]; rfl
end
theorem app_ask {S : Store} {i : Nat} {l : List (Str × Option Int)} (h : S[i]? = some (some (askO l))) (hl : l.length < 100000) {p : Str × Option Int} : gAppend (.ref i) [.d (askD p)] S = .ok (.d .non) (S.set i (some (askO (l ++ [p])))) := by
  unfold gAppend
  rw [cell_at h]
  dsimp only
  rw [if_pos (by rw [List.length_map]; exact hl)]
  unfold askO
  rw [List.map_append]; rfl
theorem frz_ask {l : List (Str × Option Int)} : frz (askO l) = some (askedD l) := by
  unfold askO frz askedD
  dsimp only
  rw [show (l.map fun p => Val.d (askD p)) = (l.map askD).map .d by rw [List.map_map]; rfl, dats_map]; rfl
theorem runC_ok {sem : Nat → VF} {S S2 : Store} {j id : Nat} {ys l : List Val} {x : Val} (hj : S[j]? = some (some (.clo id ys))) (h : sem id (l ++ ys) (S.set j none) = .ok x S2) (hl : S2.length = S.length) (h2 : S2[j]? = some none) : runC sem j l S = .ok x (S2.set j (some (.clo id ys))) := by
  unfold runC; rw [hj]; dsimp only; rw [h]; dsimp only; unfold putb; rw [if_pos hl, h2]
theorem runC_exc {sem : Nat → VF} {S S2 : Store} {j id : Nat} {ys l : List Val} {x : Exn} (hj : S[j]? = some (some (.clo id ys))) (h : sem id (l ++ ys) (S.set j none) = .exc x S2) (hl : S2.length = S.length) (h2 : S2[j]? = some none) : runC sem j l S = .exc x (S2.set j (some (.clo id ys))) := by
  unfold runC; rw [hj]; dsimp only; rw [h]; dsimp only; unfold putb; rw [if_pos hl, h2]
end Z
set_option Elab.async false
set_option linter.all false
set_option maxRecDepth 100000
set_option maxHeartbeats 4000000
namespace Z
open PySem L2 Evl NdefX LamX
local macro_rules | `(tactic| array_get_dec) => `(tactic| simp only [sel_t, sel_f, x_rok, x_rexc, x_sok, x_sexc, x_xok, x_tnx, x_trt, x_tbk, x_tct, x_texc, x_seq, x_kRt, x_ret, x_retN, x_kDrop, x_drop, x_doc, x_kAsg, x_asg, x_kIfT, x_kIfF, x_if, x_pass, x_cont, x_break, x_raise, x_getV, x_var, x_dat, x_nil, x_kCons2, x_kCons, x_cons, x_e1, x_k2, x_e2, x_e2', x_bVal, x_rbool, x_kAndT, x_kAndF, x_bAnd, x_kOrT, x_kOrF, x_bOr, x_kNot, x_bNot, x_bTruth, x_tru_non, x_tru_bl, x_tru_tup, x_tru_lst, x_kEAndT, x_kEAndF, x_eAnd, x_kEOrT, x_kEOrF, x_eOr, x_kENot, x_eNot, x_eNotT, x_kEIfT, x_kEIfF, x_eIf, x_okd, x_kCh3T, x_kCh3F, x_kCh2, x_kCh, x_chain, x_call, x_call0, x_kMeth2, x_kMeth, x_meth, x_B, x_kMt, x_mt, x_isL, x_isD, x_tup, x_lst, x_frz, x_comp, x_kSli3, x_kSli2, x_kSli, x_sli, x_oNone, x_oSome, x_rint, x_kGet22, x_kGet2, x_get2, x_kPop, x_pop, x_dct0, x_onS, x_onE, x_kFput2, x_kFput, x_fput, x_kPut3, x_kPut2, x_kPut, x_dput, x_lput, x_kUnp, x_unp, x_augI, x_augO, x_aug, x_tryR, x_tryN, x_try, x_tryX, x_tryF, x_noexN, x_noexR, x_fnT, x_fT_nx, x_fT_rt, x_fT_exc, x_rtr, x_rtrim, x_out_d, x_out_t, x_fnA, x_fA_nx, x_fA_rt, x_fA_exc, x_rtup1, x_rtup2, x_rtup3, x_rtup4, x_rlst0, x_rlst1, x_rlst2, x_rfrz_d, x_mkF, x_mkF0, x_mkT, x_sub, x_add, x_isiI, x_isiIs, x_isiIt, x_isiSs, x_isiTs, x_isiTt, x_isiB, x_eqI, x_neI, x_eqS, x_neS, x_eqB, x_neB, x_neNI, x_neIN, x_neNN, x_le, x_lt, x_gt, x_ge, x_isF, x_isT, x_nonN, x_nonI, x_nonO, x_nonT, x_nonD, x_toI, x_toB, x_gN, x_yes, x_rnon, x_tgT, x_sa0, x_sa1, x_w0, x_w1, x_fLn, x_fKn, x_fKr, x_fKx, List.getElem?_cons_zero, List.getElem?_cons_succ, List.set_cons_zero, List.set_cons_succ, List.map_cons, List.map_nil, List.cons_append, List.nil_append, List.append_assoc, List.replicate, Nat.sub_self, Nat.reduceSub, Nat.reduceAdd, List.length_cons, List.length_nil, List.length_append, Nat.zero_add, decide_true, decide_false, Bool.not_true, Bool.not_false, Bool.and_true, Bool.and_false, Bool.true_and, Bool.false_and, Bool.or_true, Bool.or_false, Bool.true_or, Bool.false_or, trim_same, trim_app, Int.reduceAdd, Option.isSome_some, Option.isNone_some, Option.isNone_none, Option.isSome_none, if_true, if_false, Bool.false_eq_true, *])
section
variable {S : Store}
theorem ne_live {i : Nat} {l m : List Dat} (h : S[i]? = some (some (.lst (m.map .d)))) : gNe (.d (.lst l)) (.ref i) S = gNe (.d (.lst l)) (.d (.lst m)) S := by
  have e : pdV S (.ref i) = pdV S (.d (.lst m)) := by
    show (match S[i]? with | some (some (.lst l)) => _ | _ => none) = _
    rw [h]
    dsimp only
    rw [dats_map]
    rfl
  have e2 : eqD S (.d (.lst l)) (.ref i) = eqD S (.d (.lst l)) (.d (.lst m)) := by
    show (match pdV S (.d (.lst l)), pdV S (.ref i) with | some a, some b => _ | _, _ => none) = (match pdV S (.d (.lst l)), pdV S (.d (.lst m)) with | some a, some b => _ | _, _ => none)
    rw [e]
  unfold gNe
  rw [e2]
theorem ne_ints {i : Nat} {l : List Int} (h : S[i]? = some (some (.lst (nums l)))) : gNe (.d (.lst (l.map .int))) (.ref i) S = .ok (.d (.bl false)) S := by
  rw [ne_live (m := l.map .int) (by rw [h]; unfold nums; rw [List.map_map]; rfl), ne_fine (fine_ints l) (fine_ints l), decide_eq_true rfl]; rfl
theorem ne_srcs {i : Nat} {l : List (List Rw)} (o : ∀ s ∈ l, okSrc s) (h : S[i]? = some (some (.lst (l.map fun s => .d (enc s))))) : gNe (.d (.lst (l.map enc))) (.ref i) S = .ok (.d (.bl false)) S := by
  have f : fineD (.lst (l.map enc)) := (fineN_lst (n := 8) fun x hx => by
    obtain ⟨s, hs, rfl⟩ := List.mem_map.mp hx
    exact fineN_enc (o s hs).2).fine (by decide)
  rw [ne_live (m := l.map enc) (by rw [h, List.map_map]; rfl), ne_fine f f, decide_eq_true rfl]; rfl
end
section
variable {ns : List Int} {j : Nat} {S : Store} {m : NbM} {vs : List Int} {ss : List (List Rw)} {hs : Bool → List Int} {pv ps pq : Nat} {ph : Bool → Nat}
theorem I14.oks (I : I14 ns j S m vs ss hs pv ps pq ph) : ∀ s ∈ ss, okSrc s := fun s hs => by
  obtain ⟨n, hn⟩ := List.mem_iff_getElem?.mp hs
  have hl : n < many14 ns := by rw [← I.ls]; exact (List.getElem?_eq_some_iff.mp hn).1
  obtain ⟨i, v, s', h1, h2, h3, h4⟩ := I.has n hl
  rw [h2] at hn; cases hn; exact h3
noncomputable def tl14 (c : Calls) : SF := (sSeq (sIf (bVal (e2 gNe (eComp false (iRange1 (eVar 2)) (gN 10) tYesF (eMeth "Notebook" "version" c.Notebook_version (eVar 1) (aCons (eVar 10) aNil)) [10]) (eVar 5))) (sRet (eDat (.bl false))) (fun e S => .nx e S))
    (sIf (bVal (e2 gNe (eComp false (iRange1 (eVar 2)) (gN 10) tYesF (eMeth "Notebook" "source" c.Notebook_source (eVar 1) (aCons (eVar 10) aNil)) [10]) (eVar 4))) (sRet (eDat (.bl false))) (fun e S => .nx e S)))
theorem I14.tail (k : Nat) (I : I14 ns j S m vs ss hs pv ps pq ph) {x0 x3 x6 x7 x8 x9 x10 x11 x12 x13 : Option Val} :
    tl14 (F (k + 3)) [x0, some (.ref 0), some (.d (.int (many14 ns : Nat))), x3, some (.ref ps), some (.ref pv), x6, x7, x8, x9, x10, x11, x12, x13] S = .nx [x0, some (.ref 0), some (.d (.int (many14 ns : Nat))), x3, some (.ref ps), some (.ref pv), x6, x7, x8, x9, x10, x11, x12, x13] S := by
  have a1 := I.versions k (x0 := x0) (x3 := x3) (x4 := some (.ref ps)) (x5 := some (.ref pv)) (x6 := x6) (x7 := x7) (x8 := x8) (x9 := x9) (x10 := x10) (x11 := x11) (x12 := x12) (x13 := x13)
  have a2 := I.sources k (x0 := x0) (x3 := x3) (x4 := some (.ref ps)) (x5 := some (.ref pv)) (x6 := x6) (x7 := x7) (x8 := x8) (x9 := x9) (x10 := x10) (x11 := x11) (x12 := x12) (x13 := x13)
  have a3 := ne_ints I.cv
  have a4 := ne_srcs I.oks I.cs
  have a5 : mkL false (nums vs) S = .ok (.d (.lst (vs.map .int))) S := by
    rw [show nums vs = (vs.map Dat.int).map .d by unfold nums; rw [List.map_map]; rfl]; exact mkF
  have a6 : mkL false (ss.map fun s => .d (enc s)) S = .ok (.d (.lst (ss.map enc))) S := by
    rw [show (ss.map fun s => Val.d (enc s)) = (ss.map enc).map .d by rw [List.map_map]; rfl]; exact mkF
  unfold tl14
  clear I
  array_get_dec
end
section
variable {ns : List Int} {j : Nat} {S : Store} {m : NbM} {vs : List Int} {ss : List (List Rw)} {hs : Bool → List Int} {pv ps pq : Nat} {ph : Bool → Nat}
theorem tl14_eq (c : Calls) : tl14 c = (sSeq (sIf (bVal (e2 gNe (eComp false (iRange1 (eVar 2)) (gN 10) tYesF (eMeth "Notebook" "version" c.Notebook_version (eVar 1) (aCons (eVar 10) aNil)) [10]) (eVar 5))) (sRet (eDat (.bl false))) (fun e S => .nx e S))
    (sIf (bVal (e2 gNe (eComp false (iRange1 (eVar 2)) (gN 10) tYesF (eMeth "Notebook" "source" c.Notebook_source (eVar 1) (aCons (eVar 10) aNil)) [10]) (eVar 4))) (sRet (eDat (.bl false))) (fun e S => .nx e S))) := rfl
/-- the hand's number -/
def hix (b : Bool) : Int := if b then 1 else 0
theorem I14.turn (k : Nat) (I : I14 ns j S m vs ss hs pv ps pq ph) (hj : j < 40) {x7 x8 x9 x10 x11 x12 x13 : Option Val} :
    ∃ (y7 y8 y9 y10 y11 y12 y13 : Option Val) (S2 : Store) (m2 : NbM) (vs2 : List Int) (ss2 : List (List Rw)) (hs2 : Bool → List Int) (ph2 : Bool → Nat),
      lp14 (F (k + 20)) [some (.d (.scr ns)), some (.ref 0), some (.d (.int (many14 ns : Nat))), some (.d (.int (j : Nat))), some (.ref ps), some (.ref pv), some (.ref pq), x7, x8, x9, x10, x11, x12, x13] S = .nx [some (.d (.scr ns)), some (.ref 0), some (.d (.int (many14 ns : Nat))), some (.d (.int (j : Nat))), some (.ref ps), some (.ref pv), some (.ref pq), y7, y8, y9, y10, y11, y12, y13] S2 ∧ I14 ns (j + 1) S2 m2 vs2 ss2 hs2 pv ps pq ph2 := by
  have hm := many14_le ns
  obtain ⟨hn1, hn2⟩ := num14_lt ns (sd14 ns j)
  generalize hnm : num14 ns (sd14 ns j) = num at hn1 hn2
  have c0 : (F (k + 20)).law_cell [.d (.scr ns), .d (.int (3 + (j : Nat) % 5))] S = .ok (.d (.int (cellI ns (3 + j % 5)))) S := by
    rw [show (3 : Int) + (j : Nat) % 5 = ((3 + j % 5 : Nat) : Int) by omega]; exact w_scr (k + 19) _
  have c1 : gMod (.d (.int (j : Nat))) (.d (.int 5)) S = .ok (.d (.int ((j : Nat) % 5))) S := mod_int (by decide)
  have c2 : gMul false (.d (.int 37)) (.d (.int (j : Nat))) S = .ok (.d (.int (37 * (j : Nat)))) S := mul_left ⟨by decide, by decide⟩
  have c3 : (F (k + 20)).law_seed [.d (.int (cellI ns (3 + j % 5) + 37 * (j : Nat))), .d (.int (j : Nat))] S = .ok (.d (.int (sd14 ns j))) S := w_seed (k + 19) _ _
  generalize hsd : sd14 ns j = sd at c3 hn2
  have c4 : gDiv (.d (.int sd)) (.d (.int 7)) S = .ok (.d (.int (sd / 7))) S := div_int ⟨by decide, by decide⟩
  have c5 : gDiv (.d (.int sd)) (.d (.int 11)) S = .ok (.d (.int (sd / 11))) S := div_int ⟨by decide, by decide⟩
  have c6 : gMod (.d (.int (sd / 11))) (.d (.int (many14 ns : Nat))) S = .ok (.d (.int (num : Nat))) S := by rw [mod_int (by omega), hn2]
  have c7 : (F (k + 20)).law_pick [.d (.int sd), .d (.int 3)] S = .ok (.d (.int (lawPick sd 3))) S := w_pick (k + 19) (by decide)
  have c8 : gMod (.d (.int (sd / 7))) (.d (.int 2)) S = .ok (.d (.int (hix (hand14 sd)))) S := by
    rw [mod_int (by decide), hand14_eq sd]
    cases hand14 sd <;> rfl
  generalize hand14 sd = b at c8
  by_cases hp : lawPick sd 3 = 0
  · -- the hand looks
    have c9 : decide (lawPick sd 3 = 0) = true := decide_eq_true hp
    have I2 := (I.see b).next
    have vv := I.versions (k + 17) (x0 := some (.d (.scr ns))) (x3 := some (.d (.int (j : Nat)))) (x4 := some (.ref ps)) (x5 := some (.ref pv)) (x6 := some (.ref pq)) (x7 := some (.d (.int sd))) (x8 := some (.d (.int (hix b)))) (x9 := some (.d (.int (num : Nat)))) (x10 := x10) (x11 := x11) (x12 := x12) (x13 := x13)
    have lq := lt_of I.cq
    have c10 : gLput (.ref pq) (.d (.int (hix b))) (.ref S.length) (S ++ [some (.lst (nums vs))]) = some ((S ++ [some (Cell.lst (nums vs))]).set pq (some (Cell.lst [.ref (if false = b then S.length else ph false), .ref (if true = b then S.length else ph true)]))) := by
      have g : (S ++ [some (Cell.lst (nums vs))])[pq]? = some (some (.lst [.ref (ph false), .ref (ph true)])) := (get_app lq).trans I.cq
      cases b with
      | false => exact lput_at (j := 0) g (by simp)
      | true => exact lput_at (j := 1) g (by simp)
    generalize ((S ++ [some (Cell.lst (nums vs))]).set pq (some (Cell.lst [.ref (if false = b then S.length else ph false), .ref (if true = b then S.length else ph true)]))) = S2 at I2 c10
    have tl := I2.tail (k + 17) (x0 := some (.d (.scr ns))) (x3 := some (.d (.int (j : Nat)))) (x6 := some (.ref pq)) (x7 := some (.d (.int sd))) (x8 := some (.d (.int (hix b)))) (x9 := some (.d (.int (num : Nat)))) (x10 := x10) (x11 := x11) (x12 := x12) (x13 := x13)
    refine ⟨some (.d (.int sd)), some (.d (.int (hix b))), some (.d (.int (num : Nat))), x10, x11, x12, x13, S2, m, vs, ss, _, _, ?_, I2⟩
    unfold lp14
    rw [← tl14_eq]
    clear I I2 hp hn2 hsd hnm hm hn1
    array_get_dec
  · have c9 : decide (lawPick sd 3 = 0) = false := decide_eq_false hp
    have c10 : (F (k + 20)).law_seed [.d (.int sd), .d (.int 1)] S = .ok (.d (.int (lawSeed sd 1))) S := w_seed (k + 19) _ _
    have c11 : (F (k + 20)).law_source [.d (.int (lawSeed sd 1))] S = .ok (.d (enc (lawSource (lawSeed sd 1)))) S := w_dsource (k + 11) _
    have hsrc : okSrc (lawSource (lawSeed sd 1)) := ok_lawSource _
    generalize lawSource (lawSeed sd 1) = l at c11 hsrc
    obtain ⟨i, v, s0, h1, h2, h3, h4⟩ := I.has num hn1
    obtain ⟨v', hv'⟩ : ∃ v', (hs b)[num]? = some v' := ⟨_, List.getElem?_eq_getElem (by rw [I.lh b]; exact hn1)⟩
    have f1 := I.few v (List.mem_of_getElem? h1)
    have f2 := I.fh b v' (List.mem_of_getElem? hv')
    have nv : (nums vs)[num]? = some (.d (.int v)) := by unfold nums; rw [List.getElem?_map, h1]; rfl
    have nh : (nums (hs b))[num]? = some (.d (.int v')) := by unfold nums; rw [List.getElem?_map, hv']; rfl
    have gq : ∀ T : Store, T[pq]? = some (some (.lst [.ref (ph false), .ref (ph true)])) → gSub (.ref pq) (.d (.int (hix b))) T = .ok (.ref (ph b)) T := fun T h => by
      cases b with
      | false => exact get_at (j := 0) h rfl
      | true => exact get_at (j := 1) h rfl
    have q0 := gq S I.cq
    have q1 : gSub (.ref (ph b)) (.d (.int (num : Nat))) S = .ok (.d (.int v')) S := get_at (I.ch b) nh
    have im := n_isIns I.nb "change" rfl
    rw [I.b] at im
    by_cases hvv : v' = v
    · -- the newest
      subst hvv
      have ch := w_change (k + 20) I.nb I.ok (c := ⟨s0, v', false, .non⟩) h4 hsrc f2.1 (by show v' ≤ 1000000; omega) (by omega)
      rw [I.b] at ch
      have I2 := I.change b hn1 h1 h4 hsrc
      have hne := I.ne
      have hi : i ∈ m.foot := .tail _ (.tail _ (.tail _ (List.mem_map.mpr ⟨_, kget_mem h4, rfl⟩)))
      rw [List.nodup_append] at hne
      obtain ⟨n1, n2, n3⟩ := hne
      have ni : ∀ y ∈ [pv, ps, pq, ph false, ph true], y ≠ i := fun y hy => n3 y hy i hi
      simp only [List.nodup_cons, List.mem_cons, List.not_mem_nil, or_false, not_or, List.nodup_nil, and_true, not_false_eq_true] at n1
      simp only [List.mem_cons, List.not_mem_nil, or_false, forall_eq_or_imp, forall_eq] at ni
      have sb : ph b ≠ pv ∧ ph b ≠ ps ∧ ph b ≠ pq ∧ ph b ≠ i := by cases b <;> omega
      obtain ⟨S1, hS1⟩ : ∃ X : Store, X = S.set i (some (cellO ⟨l, v' + 1, false, .non⟩)) := ⟨_, rfl⟩
      obtain ⟨S2, hS2⟩ : ∃ X : Store, X = S1.set pv (some (Cell.lst (nums (vs.set num (v' + 1))))) := ⟨_, rfl⟩
      obtain ⟨S3, hS3⟩ : ∃ X : Store, X = S2.set ps (some (Cell.lst ((ss.set num l).map fun s => .d (enc s)))) := ⟨_, rfl⟩
      obtain ⟨S4, hS4⟩ : ∃ X : Store, X = S3.set (ph b) (some (Cell.lst (nums ((hs b).set num (v' + 1))))) := ⟨_, rfl⟩
      have e4 : (((S.set i (some (cellO ⟨l, v' + 1, false, .non⟩))).set pv (some (Cell.lst (nums (vs.set num (v' + 1)))))).set ps (some (Cell.lst ((ss.set num l).map fun s => .d (enc s))))).set (ph b) (some (Cell.lst (nums ((hs b).set num (v' + 1))))) = S4 := by rw [hS4, hS3, hS2, hS1]
      rw [e4] at I2
      have ch' : (F (k + 20)).Notebook_change [.ref 0, .d (.int (num : Nat)), .d (.int v'), .d (enc l)] S = .ok (.d (.int (v' + 1))) S1 := by rw [hS1]; exact ch
      have t1 : ∀ {y o}, S[y]? = some o → y ≠ i → S1[y]? = some o := fun h n => by rw [hS1, get_set_ne n.symm]; exact h
      have t2 : ∀ {y o}, S1[y]? = some o → y ≠ pv → S2[y]? = some o := fun h n => by rw [hS2, get_set_ne n.symm]; exact h
      have t3 : ∀ {y o}, S2[y]? = some o → y ≠ ps → S3[y]? = some o := fun h n => by rw [hS3, get_set_ne n.symm]; exact h
      have pq1 := t1 I.cq (by omega)
      have ph1 := t1 (I.ch b) sb.2.2.2
      have pv1 := t1 I.cv (by omega)
      have ps1 := t1 I.cs (by omega)
      have ps2 := t2 ps1 (by omega)
      have pq3 := t3 (t2 pq1 (by omega)) (by omega)
      have ph3 := t3 (t2 ph1 sb.1) sb.2.1
      have u1 := gq S1 pq1
      have u2 : gSub (.ref (ph b)) (.d (.int (num : Nat))) S1 = .ok (.d (.int v')) S1 := get_at ph1 nh
      have u3 : gSub (.ref pv) (.d (.int (num : Nat))) S1 = .ok (.d (.int v')) S1 := get_at pv1 nv
      have u4 : sLaug (eVar 5) (eVar 9) (eDat (.int 1)) [some (.d (.scr ns)), some (.ref 0), some (.d (.int (many14 ns : Nat))), some (.d (.int (j : Nat))), some (.ref ps), some (.ref pv), some (.ref pq), some (.d (.int sd)), some (.d (.int (hix b))), some (.d (.int (num : Nat))), x10, some (.d (enc l)), some (.d (.bl false)), some (.d (.int (v' + 1)))] S1 = .nx [some (.d (.scr ns)), some (.ref 0), some (.d (.int (many14 ns : Nat))), some (.d (.int (j : Nat))), some (.ref ps), some (.ref pv), some (.ref pq), some (.d (.int sd)), some (.d (.int (hix b))), some (.d (.int (num : Nat))), x10, some (.d (enc l)), some (.d (.bl false)), some (.d (.int (v' + 1)))] S2 := by
        rw [z_laug (i := pv) (j := num) rfl rfl pv1 nv rfl, hS2]
        unfold nums
        rw [List.map_set]
      have u5 : gLput (.ref ps) (.d (.int (num : Nat))) (.d (enc l)) S2 = some S3 := by
        rw [lput_at ps2 (by rw [List.length_map, I.ls]; exact hn1), hS3, List.map_set]
      have u6 := gq S3 pq3
      have u7 : gLput (.ref (ph b)) (.d (.int (num : Nat))) (.d (.int (v' + 1))) S3 = some S4 := by
        rw [lput_at ph3 (by unfold nums; rw [List.length_map, I.lh b]; exact hn1), hS4]
        unfold nums
        rw [List.map_set]
      have u8 : gSub (.ref pv) (.d (.int (num : Nat))) S4 = .ok (.d (.int (v' + 1))) S4 := get_at I2.cv (by unfold nums; rw [List.getElem?_map, List.getElem?_set_self (by rw [I.lv]; exact hn1)]; rfl)
      have tl := I2.tail (k + 17) (x0 := some (.d (.scr ns))) (x3 := some (.d (.int (j : Nat)))) (x6 := some (.ref pq)) (x7 := some (.d (.int sd))) (x8 := some (.d (.int (hix b)))) (x9 := some (.d (.int (num : Nat)))) (x10 := x10) (x11 := some (.d (enc l))) (x12 := some (.d (.bl false))) (x13 := some (.d (.int (v' + 1))))
      refine ⟨some (.d (.int sd)), some (.d (.int (hix b))), some (.d (.int (num : Nat))), x10, some (.d (enc l)), some (.d (.bl false)), some (.d (.int (v' + 1))), S4, _, _, _, _, _, ?_, I2⟩
      unfold lp14
      rw [← tl14_eq]
      clear I I2 hp hn2 hsd hnm hm hn1 e4 hS1 hS2 hS3 hS4 t1 t2 t3 gq h1 h2 hv' h4 f1 f2 ch n1 n2 n3 ni sb
      array_get_dec
    · -- behind
      have ch := w_behind (k + 20) I.nb I.ok (c := ⟨s0, v, false, .non⟩) h4 hsrc f2.1 (by omega) hvv (by omega)
      rw [I.b] at ch
      have I2 := I.next
      have u3 : gSub (.ref pv) (.d (.int (num : Nat))) S = .ok (.d (.int v)) S := get_at I.cv nv
      have nd : decide (v' = v) = false := decide_eq_false hvv
      have hct : ct_Behind (⟨"Behind", none⟩ : Exn).cls = some true := rfl
      have tr : ∀ {s : SF} {e : Envr} {S : Store}, tryO ct_Behind s (.exc ⟨"Behind", none⟩ e S) = noexc (s e S) := x_tryX hct
      have tl := I2.tail (k + 17) (x0 := some (.d (.scr ns))) (x3 := some (.d (.int (j : Nat)))) (x6 := some (.ref pq)) (x7 := some (.d (.int sd))) (x8 := some (.d (.int (hix b)))) (x9 := some (.d (.int (num : Nat)))) (x10 := x10) (x11 := some (.d (enc l))) (x12 := some (.d (.bl true))) (x13 := some (.d .non))
      refine ⟨some (.d (.int sd)), some (.d (.int (hix b))), some (.d (.int (num : Nat))), x10, some (.d (enc l)), some (.d (.bl true)), some (.d .non), S, _, _, _, _, _, ?_, I2⟩
      unfold lp14
      rw [← tl14_eq]
      clear I I2 hp hn2 hsd hnm hm hn1 gq h1 h2 hv' h4 f1 f2 hvv
      array_get_dec
end
end Z
set_option Elab.async false
set_option linter.all false
set_option maxRecDepth 100000
set_option maxHeartbeats 4000000
namespace Z
open PySem L2 Evl NdefX LamX
local macro_rules | `(tactic| array_get_dec) => `(tactic| simp only [sel_t, sel_f, x_rok, x_rexc, x_sok, x_sexc, x_xok, x_tnx, x_trt, x_tbk, x_tct, x_texc, x_seq, x_kRt, x_ret, x_retN, x_kDrop, x_drop, x_doc, x_kAsg, x_asg, x_kIfT, x_kIfF, x_if, x_pass, x_cont, x_break, x_raise, x_getV, x_var, x_dat, x_nil, x_kCons2, x_kCons, x_cons, x_e1, x_k2, x_e2, x_e2', x_bVal, x_rbool, x_kAndT, x_kAndF, x_bAnd, x_kOrT, x_kOrF, x_bOr, x_kNot, x_bNot, x_bTruth, x_tru_non, x_tru_bl, x_tru_tup, x_tru_lst, x_kEAndT, x_kEAndF, x_eAnd, x_kEOrT, x_kEOrF, x_eOr, x_kENot, x_eNot, x_eNotT, x_kEIfT, x_kEIfF, x_eIf, x_okd, x_kCh3T, x_kCh3F, x_kCh2, x_kCh, x_chain, x_call, x_call0, x_kMeth2, x_kMeth, x_meth, x_B, x_kMt, x_mt, x_isL, x_isD, x_tup, x_lst, x_frz, x_comp, x_kSli3, x_kSli2, x_kSli, x_sli, x_oNone, x_oSome, x_rint, x_kGet22, x_kGet2, x_get2, x_kPop, x_pop, x_dct0, x_onS, x_onE, x_kFput2, x_kFput, x_fput, x_kPut3, x_kPut2, x_kPut, x_dput, x_lput, x_kUnp, x_unp, x_augI, x_augO, x_aug, x_tryR, x_tryN, x_try, x_tryX, x_tryF, x_noexN, x_noexR, x_fnT, x_fT_nx, x_fT_rt, x_fT_exc, x_rtr, x_rtrim, x_out_d, x_out_t, x_fnA, x_fA_nx, x_fA_rt, x_fA_exc, x_rtup1, x_rtup2, x_rtup3, x_rtup4, x_rlst0, x_rlst1, x_rlst2, x_rfrz_d, x_mkF, x_mkF0, x_mkT, x_sub, x_add, x_isiI, x_isiIs, x_isiIt, x_isiSs, x_isiTs, x_isiTt, x_isiB, x_eqI, x_neI, x_eqS, x_neS, x_eqB, x_neB, x_neNI, x_neIN, x_neNN, x_le, x_lt, x_gt, x_ge, x_isF, x_isT, x_nonN, x_nonI, x_nonO, x_nonT, x_nonD, x_toI, x_toB, x_gN, x_yes, x_rnon, x_tgT, x_sa0, x_sa1, x_w0, x_w1, x_fLn, x_fKn, x_fKr, x_fKx, List.getElem?_cons_zero, List.getElem?_cons_succ, List.set_cons_zero, List.set_cons_succ, List.map_cons, List.map_nil, List.cons_append, List.nil_append, List.append_assoc, List.replicate, Nat.sub_self, Nat.reduceSub, Nat.reduceAdd, List.length_cons, List.length_nil, List.length_append, Nat.zero_add, decide_true, decide_false, Bool.not_true, Bool.not_false, Bool.and_true, Bool.and_false, Bool.true_and, Bool.false_and, Bool.or_true, Bool.or_false, Bool.true_or, Bool.false_or, trim_same, trim_app, Int.reduceAdd, Option.isSome_some, Option.isNone_some, Option.isNone_none, Option.isSome_none, if_true, if_false, Bool.false_eq_true, *])
section
theorem zeros_eq (n : Nat) : (List.replicate n [Val.d (.int 0)]).flatten = nums (List.replicate n 0) := by
  unfold nums
  rw [List.map_replicate]
  induction n with
  | zero => rfl
  | succ n ih => rw [List.replicate_succ, List.flatten_cons, ih, List.replicate_succ]; rfl
theorem mul_zeros {S : Store} {n : Nat} (h : n ≤ 6) : gMul true (.d (.lst [.int 0])) (.d (.int (n : Nat))) S = .ok (.ref S.length) (S ++ [some (.lst (nums (List.replicate n 0)))]) := by
  unfold gMul
  show (if -1000000 ≤ (n : Int) ∧ (n : Int) ≤ 1000000 ∧ 1 * ((n : Int)).toNat ≤ 100000 then mkL true (List.replicate ((n : Int)).toNat [Val.d (.int 0)]).flatten S else .stuck) = _
  rw [if_pos ⟨by omega, by omega, by omega⟩, Int.toNat_natCast, zeros_eq]; rfl
theorem news_eq (n : Nat) : (List.replicate n [Val.d (.str "new")]).flatten = (List.replicate n (Dat.str "new")).map .d := by
  rw [List.map_replicate]
  induction n with
  | zero => rfl
  | succ n ih => rw [List.replicate_succ, List.flatten_cons, ih, List.replicate_succ]; rfl
theorem mul_news {S : Store} {n : Nat} (h : n ≤ 6) : gMul false (.d (.lst [.str "new"])) (.d (.int (n : Nat))) S = .ok (.d (.lst (List.replicate n (.str "new")))) S := by
  unfold gMul
  show (if -1000000 ≤ (n : Int) ∧ (n : Int) ≤ 1000000 ∧ 1 * ((n : Int)).toNat ≤ 100000 then mkL false (List.replicate ((n : Int)).toNat [Val.d (.str "new")]).flatten S else .stuck) = _
  rw [if_pos ⟨by omega, by omega, by omega⟩, Int.toNat_natCast, news_eq]; exact mkF
theorem law14 (ns : List Int) (hl : ns.length ≤ 63) (hb : ∀ z ∈ ns, Builtin.Int.intBits z ≤ 1048576) : ∃ S, (F 430).law [.d (.scr ns)] [] = .ok (.d (.bl true)) S := by
  rw [F_law]
  unfold f_law bd_law
  have hm := many14_le ns
  have me := many14_eq ns
  generalize hmm : many14 ns = M at hm me
  have c0 : ∀ S, (F 429).law_cell [.d (.scr ns), .d (.int 0)] S = .ok (.d (.int (cellI ns 0))) S := fun S => w_scr 428 0
  have c1 : ∀ S, (F 429).law_cell [.d (.scr ns), .d (.int 1)] S = .ok (.d (.int (cellI ns 1))) S := fun S => w_scr 428 1
  have c2 : ∀ S, (F 429).law_cell [.d (.scr ns), .d (.int 2)] S = .ok (.d (.int (cellI ns 2))) S := fun S => w_scr 428 2
  have c3 : ∀ S, gMod (.d (.int (cellI ns 0))) (.d (.int 6)) S = .ok (.d (.int (cellI ns 0 % 6))) S := fun S => mod_int (by decide)
  have c4 : ∀ S, gMod (.d (.int (cellI ns 2))) (.d (.int 40)) S = .ok (.d (.int (cellI ns 2 % 40))) S := fun S => mod_int (by decide)
  have mk : (F 429).mk_Notebook [] [] = .ok (.ref 0) [some (.ins "Notebook" [("cells", .ref 1), ("row", .ref 2), ("after", .d (.int 0))]), some (.dct []), some (.lst [])] := w_mkNotebook (S := []) 427
  let S1 : Store := [some (.ins "Notebook" [("cells", .ref 1), ("row", .ref 2), ("after", .d (.int 0))]), some (.dct []), some (.lst [])]
  let srcs : List Val := (List.range M).map fun j => .d (enc (src14 ns j))
  have cmp : compF (iRange1 (eVar 2)) (gN 3) tYesF (eCall (F 429).law_source (aCons (eCall (F 429).law_seed (aCons (eCall (F 429).law_cell (aCons (eVar 0) (aCons (eDat (.int 1)) aNil))) (aCons (eVar 3) aNil))) aNil)) [3] [some (.d (.scr ns)), some (.ref 0), some (.d (.int (M : Nat))), none, none, none, none, none, none, none, none, none, none, none] S1 = .ok srcs S1 := by
    refine comp_al (u := fun j : Nat => Val.d (.int (0 + (j : Nat)))) (xs := List.range M) (g := none) (iRange1_n rfl (by omega)) trivial (by simp; omega) fun j _ => ⟨_, rfl, ?_⟩
    have d1 : (F 429).law_seed [.d (.int (cellI ns 1)), .d (.int (0 + (j : Nat)))] S1 = .ok (.d (.int (lawSeed (cellI ns 1) j))) S1 := by rw [show (0 : Int) + (j : Nat) = (j : Nat) by omega]; exact w_seed 428 _ _
    have d2 : (F 429).law_source [.d (.int (lawSeed (cellI ns 1) j))] S1 = .ok (.d (enc (src14 ns j))) S1 := w_dsource 420 _
    simp only [x_w1, x_w0, List.set_cons_succ, List.set_cons_zero]
    array_get_dec
  have e0 : ([some (Cell.lst srcs)] : Store).length = 1 := rfl
  -- the puts
  obtain ⟨e', S3, g1, m, J, g3, g4, g5, y, g6⟩ := for_ty (xs := List.range M) (u := fun j : Nat => Val.d (.int (0 + (j : Nat)))) (g := none) (it := iRange1 (eVar 2)) (S := S1 ++ [some (Cell.lst srcs)]) (S1 := S1 ++ [some (Cell.lst srcs)]) (e := [some (.d (.scr ns)), some (.ref 0), some (.d (.int (M : Nat))), none, some (.ref 3), none, none, none, none, none, none, none, none, none]) (tg := gN 3)
    (body := (sDrop (eMeth "Notebook" "put" (F 429).Notebook_put (eVar 1) (aCons (eVar 3) (aCons (e2 gSub (eVar 4) (eVar 3)) aNil)))))
    (fun j e S => ∃ m, J14 ns j S m ∧ S[3]? = some (some (Cell.lst srcs)) ∧ 3 ∉ m.foot ∧ S.length = 4 + j ∧ ∃ y, e = [some (.d (.scr ns)), some (.ref 0), some (.d (.int (M : Nat))), y, some (.ref 3), none, none, none, none, none, none, none, none, none])
    (iRange1_n rfl (by omega)) (fun _ _ _ _ => trivial) ⟨newNb 0, ⟨(newNb_at (S := [])).frame (f := []) ⟨by simp [S1], fun i hi _ => get_app hi⟩ (fun _ _ z => nomatch z), newNb_ok 0, rfl, rfl, rfl, (fun p hp => nomatch hp), (fun n h => by omega)⟩, rfl, by simp [NbM.foot, newNb], rfl, none, rfl⟩
    fun j x e S hx ⟨m, J, h3, hf, hl, y, he⟩ => by
      subst he
      have hj : j < M ∧ x = j := by
        by_cases q : j < M
        · rw [List.getElem?_range q] at hx; exact ⟨q, by cases hx; rfl⟩
        · rw [List.getElem?_eq_none (by simpa using q)] at hx; cases hx
      obtain ⟨hj, rfl⟩ := hj
      obtain ⟨S', p1, p2, p3, p4⟩ := J.step 429 (by omega) (by omega)
      have im := n_isIns J.nb "put" rfl
      rw [J.b] at im
      have gs : gSub (.ref 3) (.d (.int (x : Nat))) S = .ok (.d (enc (src14 ns x))) S := get_at h3 (by show ((List.range M).map _)[x]? = _; rw [List.getElem?_map, List.getElem?_range hj]; rfl)
      have kb := J.nb.lt
      refine ⟨_, rfl, [some (.d (.scr ns)), some (.ref 0), some (.d (.int (M : Nat))), some (.d (.int (x : Nat))), some (.ref 3), none, none, none, none, none, none, none, none, none], S', .inl ?_, m.put x (src14 ns x) S.length, p2, ?_, ?_, by omega, _, rfl⟩
      · rw [show (0 : Int) + (x : Nat) = (x : Nat) by omega]
        clear cmp p2 p3 J hx
        array_get_dec
      · rw [p3.at_ 3 (by omega) (fun h => by
          simp only [List.mem_cons, List.not_mem_nil, or_false] at h
          exact hf (by rcases h with h | h | h <;> rw [h] <;> simp [NbM.foot]))]
        exact h3
      · intro h
        have : 3 ∈ m.foot ∨ 3 = S.length := by
          unfold NbM.foot NbM.put at h
          unfold NbM.foot
          simp only [List.map_append, List.map_cons, List.map_nil, List.mem_cons, List.mem_append, List.not_mem_nil, or_false] at h ⊢
          rcases h with h | h | h | h | h
          · exact .inl (.inl h)
          · exact .inl (.inr (.inl h))
          · exact .inl (.inr (.inr (.inl h)))
          · exact .inl (.inr (.inr (.inr h)))
          · exact .inr h
        rcases this with h | h
        · exact hf h
        · omega
  rw [List.length_range] at J g5
  subst g6
  have l3 := lt_of g3
  have mn := fun S : Store => mul_news (S := S) (n := M) (by omega)
  -- where things stand
  obtain ⟨z, hz⟩ : ∃ z : List Int, z = List.replicate M 0 := ⟨_, rfl⟩
  have mz : ∀ S : Store, gMul true (.d (.lst [.int 0])) (.d (.int (M : Nat))) S = .ok (.ref S.length) (S ++ [some (.lst (nums z))]) := fun S => by rw [hz]; exact mul_zeros (S := S) (n := M) (by omega)
  obtain ⟨S6, hS6⟩ : ∃ X : Store, X = S3 ++ [none, some (.lst (nums z)), none, some (.lst (nums z)), none, some (.lst (nums z)), some (.lst [.ref (S3.length + 3), .ref (S3.length + 5)])] := ⟨_, rfl⟩
  have k6 : ∀ i, i < S3.length → S6[i]? = S3[i]? := fun i hi => by rw [hS6]; exact get_app hi
  have n6 : ∀ i, S6[S3.length + i]? = ([none, some (.lst (nums z)), none, some (.lst (nums z)), none, some (.lst (nums z)), some (.lst [.ref (S3.length + 3), .ref (S3.length + 5)])] : Store)[i]? := fun i => by
    rw [hS6, List.getElem?_append_right (by omega), Nat.add_sub_cancel_left]
  have ff := J.nb.lt
  have I0 : I14 ns 0 S6 m z ((List.range M).map (src14 ns)) (fun _ => z) (S3.length + 1) 3 (S3.length + 6) (fun b => if b = true then S3.length + 5 else S3.length + 3) := by
    refine ⟨J.nb.frame (f := []) ⟨by rw [hS6]; simp, fun i hi _ => k6 i hi⟩ (fun _ _ q => nomatch q), J.ok, J.b, J.new, by simp [hz, hmm], by simp [hmm], by simp [hz, hmm], ?_, ?_, ?_, n6 1, ?_, n6 6, ?_, ?_⟩
    · intro n hn
      rw [hmm] at hn
      obtain ⟨i, hi⟩ := J.has n hn
      refine ⟨i, 0, src14 ns n, by simp [hz, hn], by rw [List.getElem?_map, List.getElem?_range hn]; rfl, ok_lawSource _, hi⟩
    · intro v hv
      rw [hz] at hv
      have := List.eq_of_mem_replicate hv
      omega
    · intro b v hv
      rw [hz] at hv
      have := List.eq_of_mem_replicate hv
      omega
    · rw [k6 3 (by omega), g3, List.map_map]; rfl
    · intro b
      cases b with
      | false => exact n6 3
      | true => exact n6 5
    · refine List.nodup_append.mpr ⟨by
          show [S3.length + 1, 3, S3.length + 6, S3.length + 3, S3.length + 5].Nodup
          simp only [List.nodup_cons, List.mem_cons, List.not_mem_nil, or_false, not_or, List.nodup_nil, and_true, not_false_eq_true]
          omega, ?_, ?_⟩
      · have h1 := J.nb
        refine List.nodup_cons.mpr ⟨?_, List.nodup_cons.mpr ⟨?_, List.nodup_cons.mpr ⟨?_, h1.inj⟩⟩⟩
        · simp only [List.mem_cons, not_or, List.mem_map, not_exists, not_and]
          exact ⟨h1.bc, h1.br, fun p hp e => h1.pb hp e⟩
        · simp only [List.mem_cons, not_or, List.mem_map, not_exists, not_and]
          exact ⟨h1.cr, fun p hp e => h1.pc hp e⟩
        · simp only [List.mem_map, not_exists, not_and]
          exact fun p hp e => h1.pr hp e
      · intro a ha b hb e
        subst e
        have := ff a hb
        simp only [List.mem_cons, List.not_mem_nil, or_false] at ha
        rcases ha with h | h | h | h | h
        · omega
        · exact g4 (h ▸ hb)
        · omega
        · simp at h; omega
        · simp at h; omega
  obtain ⟨q, hq⟩ : ∃ q : Nat, cellI ns 2 % 40 = (q : Nat) := ⟨(cellI ns 2 % 40).toNat, by omega⟩
  have hq40 : q < 40 := by omega
  obtain ⟨e2, S7, u1, m7, vs7, ss7, hs7, ph7, I7, y3, y7, y8, y9, y10, y11, y12, y13, he⟩ := for_ty (xs := List.range q) (u := fun j : Nat => Val.d (.int (0 + (j : Nat)))) (g := none) (it := iRange1 (e2 gMod (eCall (F 429).law_cell (aCons (eVar 0) (aCons (eDat (.int 2)) aNil))) (eDat (.int 40)))) (S := S6) (S1 := S6)
    (e := [some (.d (.scr ns)), some (.ref 0), some (.d (.int (M : Nat))), y, some (.ref 3), some (.ref (S3.length + 1)), some (.ref (S3.length + 6)), none, none, none, none, none, none, none]) (tg := gN 3) (body := lp14 (F 429))
    (fun j e S => ∃ m vs ss hs ph, I14 ns j S m vs ss hs (S3.length + 1) 3 (S3.length + 6) ph ∧ ∃ y3 y7 y8 y9 y10 y11 y12 y13, e = [some (.d (.scr ns)), some (.ref 0), some (.d (.int (M : Nat))), y3, some (.ref 3), some (.ref (S3.length + 1)), some (.ref (S3.length + 6)), y7, y8, y9, y10, y11, y12, y13])
    (by
      rw [show (List.range q).map (fun j : Nat => Val.d (.int (0 + (j : Nat)))) = rangeV 0 q from rfl]
      refine iRange1_n ?_ (by omega)
      rw [← hq]
      clear hq cmp g1
      array_get_dec) (fun _ _ _ _ => trivial) ⟨m, _, _, _, _, I0, y, none, none, none, none, none, none, none, rfl⟩
    fun j x e S hx ⟨m, vs, ss, hs, ph, I, y3, y7, y8, y9, y10, y11, y12, y13, he⟩ => by
      subst he
      have hj : j < q ∧ x = j := by
        by_cases k : j < q
        · rw [List.getElem?_range k] at hx; exact ⟨k, by cases hx; rfl⟩
        · rw [List.getElem?_eq_none (by simpa using k)] at hx; cases hx
      obtain ⟨hj, rfl⟩ := hj
      obtain ⟨z7, z8, z9, z10, z11, z12, z13, S2, m2, vs2, ss2, hs2, ph2, t1, t2⟩ := I.turn 409 (by omega) (x7 := y7) (x8 := y8) (x9 := y9) (x10 := y10) (x11 := y11) (x12 := y12) (x13 := y13)
      rw [hmm] at t1
      refine ⟨_, rfl, [some (.d (.scr ns)), some (.ref 0), some (.d (.int (M : Nat))), some (.d (.int (x : Nat))), some (.ref 3), some (.ref (S3.length + 1)), some (.ref (S3.length + 6)), z7, z8, z9, z10, z11, z12, z13], S2, .inl ?_, m2, vs2, ss2, hs2, ph2, t2, some (.d (.int (x : Nat))), z7, z8, z9, z10, z11, z12, z13, rfl⟩
      rw [show (0 : Int) + (x : Nat) = (x : Nat) by omega]
      exact t1
  subst he
  have fr := w_freshNew 427 I7.nb I7.ok I7.new
  rw [I7.b] at fr
  have st := I7.states 426 (x0 := some (.d (.scr ns))) (x3 := y3) (x4 := some (.ref 3)) (x5 := some (.ref (S3.length + 1))) (x6 := some (.ref (S3.length + 6))) (x7 := y7) (x8 := y8) (x9 := y9) (x10 := y10) (x11 := y11) (x12 := y12) (x13 := y13)
  rw [hmm] at st
  have im := n_isIns I7.nb "fresh" rfl
  rw [I7.b] at im
  have q1 : ∀ S, gEq (.d (.lst [])) (.d (.lst [])) S = .ok (.d (.bl true)) S := fun S => by
    have := eq_fine (S := S) (fine_ints []) (fine_ints [])
    rw [decide_eq_true rfl] at this
    exact this
  have fn : fineD (.lst (List.replicate M (.str "new"))) := (fineN_lst (n := 0) fun x hx => by rw [List.eq_of_mem_replicate hx]; exact fineN_str (by decide +kernel) 0).fine (by decide)
  have q2 : ∀ S, gEq (.d (.lst (List.replicate M (.str "new")))) (.d (.lst (List.replicate M (.str "new")))) S = .ok (.d (.bl true)) S := fun S => by rw [eq_fine fn fn, decide_eq_true rfl]
  have fr1 : ∀ (d : Dat) (S : Store), rfrz (.ref S.length) (S ++ [some (.lst [.d d])]) = .ok (.d (.lst [d])) (S ++ [none]) := fun d S => by
    rw [rfrz_ref (y := .lst [d]) get_last rfl, set_last]
  have fr0 : ∀ (S : Store), rfrz (.ref S.length) (S ++ [some (.lst [])]) = .ok (.d (.lst [])) (S ++ [none]) := fun S => by
    rw [rfrz_ref (y := .lst []) get_last rfl, set_last]
  -- the straight pieces
  have frK : ∀ (d : Dat) (T : Store), rfrz (.ref (S3.length + T.length)) (S3 ++ (T ++ [some (.lst [.d d])])) = .ok (.d (.lst [d])) (S3 ++ (T ++ [none])) := fun d T => by
    have := fr1 d (S3 ++ T)
    rwa [List.length_append, List.append_assoc, List.append_assoc] at this
  have mzK : ∀ T : Store, gMul true (.d (.lst [.int 0])) (.d (.int (M : Nat))) (S3 ++ T) = .ok (.ref (S3.length + T.length)) (S3 ++ (T ++ [some (.lst (nums z))])) := fun T => by
    have := mz (S3 ++ T)
    rwa [List.length_append, List.append_assoc] at this
  have n1 := frK (.int 0) []
  have n2 := mzK [none]
  have n3 := frK (.int 0) [none, some (.lst (nums z))]
  have n4 := mzK [none, some (.lst (nums z)), none]
  have n5 := frK (.int 0) [none, some (.lst (nums z)), none, some (.lst (nums z))]
  have n6' := mzK [none, some (.lst (nums z)), none, some (.lst (nums z)), none]
  simp only [List.length_cons, List.length_nil, List.nil_append, List.cons_append, Nat.zero_add, Nat.reduceAdd, Nat.add_zero] at n1 n2 n3 n4 n5 n6'
  have I8 := I7.up (S' := S7 ++ [none]) (fun i hi => get_app hi) (by simp)
  have st := I8.states 426 (x0 := some (.d (.scr ns))) (x3 := y3) (x4 := some (.ref 3)) (x5 := some (.ref (S3.length + 1))) (x6 := some (.ref (S3.length + 6))) (x7 := y7) (x8 := y8) (x9 := y9) (x10 := y10) (x11 := y11) (x12 := y12) (x13 := y13)
  rw [hmm] at st
  have mkf : mkL false ((List.replicate M (Dat.str "new")).map .d) (S7 ++ [none]) = .ok (.d (.lst (List.replicate M (.str "new")))) (S7 ++ [none]) := mkF
  have f8 := fr0 S7
  have f9 := fr1 (.str "new") (S7 ++ [none])
  have l8 : (S7 ++ [none]).length = S7.length + 1 := by simp
  rw [l8, List.append_assoc, List.append_assoc] at f9
  simp only [List.cons_append, List.nil_append] at f9
  unfold lp14 at u1
  have e1 : S1 ++ [some (Cell.lst srcs)] = [some (.ins "Notebook" [("cells", .ref 1), ("row", .ref 2), ("after", .d (.int 0))]), some (.dct []), some (.lst []), some (.lst srcs)] := rfl
  rw [e1] at g1
  have cm : compF (iRange1 (eVar 2)) (gN 3) tYesF (eCall (F 429).law_source (aCons (eCall (F 429).law_seed (aCons (eCall (F 429).law_cell (aCons (eVar 0) (aCons (eDat (.int 1)) aNil))) (aCons (eVar 3) aNil))) aNil)) [3] [some (.d (.scr ns)), some (.ref 0), some (.d (.int (M : Nat))), none, none, none, none, none, none, none, none, none, none, none] [some (.ins "Notebook" [("cells", .ref 1), ("row", .ref 2), ("after", .d (.int 0))]), some (.dct []), some (.lst [])] = .ok srcs [some (.ins "Notebook" [("cells", .ref 1), ("row", .ref 2), ("after", .d (.int 0))]), some (.dct []), some (.lst [])] := cmp
  have lx : ([some (.ins "Notebook" [("cells", .ref 1), ("row", .ref 2), ("after", .d (.int 0))]), some (.dct []), some (.lst [])] : Store).length = 3 := rfl
  rw [hS6] at u1
  clear hz cmp I7 I8 I0 J fr0 fr1 frK mzK hq hS6 k6 n6 hm hmm e0 g3 g4 g5 l3 ff l8 hq40 mz
  refine ⟨S7 ++ [none, none], ?_⟩
  clear fn
  have d14 : 14 - 1 = 13 := rfl
  simp only [x_fnA]
  array_get_dec
end
end Z
set_option Elab.async false
set_option linter.all false
set_option maxRecDepth 100000
set_option maxHeartbeats 4000000
set_option pp.maxSteps 600
set_option pp.deepTerms false
namespace Z
open PySem L2 Evl NdefX LamX
section
variable {P : Program} {wd : World} {K : PySem.W.Frag} {mg : Str → Option Value} {base : Heap} {n : Nat} {c : Calls}
theorem d_is_within (T : Txt K mg) (IH : FnDs P wd K mg base n c) : FnD P wd K mg base (n + 1) (fa_ K "is_within") (fdOf K (fa_ K "is_within")) ["thing", "low", "high"] (spM (G K) (f_is_within c)) := by
  have nd := sc_is_within.nd
  exact fnd_T T.d_is_within.h sc_is_within rfl rfl fun cdv A outer s H E hR => (mss_one (ms_ret (m_and (m_isi (T := "int") (by decide) rfl T.b_isinstance (m_var (pv 0)) (pe_bltn (v := .ty "int") (u := .type "int") (by rfl) T.b_int (by decide +kernel) rfl)) (m_and (m_not (m_isi (T := "bool") (by decide) rfl T.b_isinstance (m_var (pv 0)) (pe_bltn (v := .ty "bool") (u := .type "bool") (by rfl) T.b_bool (by decide +kernel) rfl))) (m_one (m_chain c_le c_le (m_var (pv 1)) (m_var (pv 0)) (m_var (pv 2))))))))
theorem d_is_name (T : Txt K mg) (IH : FnDs P wd K mg base n c) : FnD P wd K mg base (n + 1) (fa_ K "is_name") (fdOf K (fa_ K "is_name")) ["thing"] (spM (G K) (f_is_name c)) := by
  have nd := sc_is_name.nd
  exact fnd_T T.d_is_name.h sc_is_name rfl rfl fun cdv A outer s H E hR => (mss_cons (ms_if (tm_pw (tw_or (tm_not (tm_truth (m_isi (T := "str") (by decide) rfl T.b_isinstance (m_var (pv 0)) (pe_bltn (v := .ty "str") (u := .type "str") (by rfl) T.b_str (by decide +kernel) rfl)))) (tw_or (tm_not (tm_chain c_le c_le m_int (m_len rfl T.b_len (m_var (pv 0))) m_int)) (tw_or1 (tm_in hR.hu65 (m_var (pv 0)) (m_strs rfl T.k_BARRED)))))) (mss_one (ms_ret m_bl)) mss_nil)
      (mss_one (ms_ret (m_notT (m_lc (own := [("sign", 1)]) rfl nd (im_any (m_var (pv 0))) (blkOk_by (own := [("sign", 1)]) (N := N_is_name) (sc := defScope s_is_name) (by decide +kernel)) (fun _ _ _ _ _ => (pg_name (i := 1) nd rfl (.inl rfl))) tg_name (by decide) (fun _ _ _ _ _ => (mts_one (tm_notin hR.hu65 (m_var (pv 1)) (m_strc rfl T.k_SMALL)))) (fun _ _ _ _ _ => (m_var (pv 1))))))))
theorem d_is_sum (T : Txt K mg) (IH : FnDs P wd K mg base n c) : FnD P wd K mg base (n + 1) (fa_ K "is_sum") (fdOf K (fa_ K "is_sum")) ["thing", "deep"] (spM (G K) (f_is_sum c)) := by
  have nd := sc_is_sum.nd
  exact fnd_T T.d_is_sum.h sc_is_sum rfl rfl fun cdv A outer s H E hR => (mss_cons (ms_if (tm_truth (m_isi (T := "str") (by decide) rfl T.b_isinstance (m_var (pv 0)) (pe_bltn (v := .ty "str") (u := .type "str") (by rfl) T.b_str (by decide +kernel) rfl))) (mss_one (ms_ret (m_def T.d_is_name IH.is_name hR (takes_of rfl rfl rfl rfl) (ma_cons (m_var (pv 0)) ma_nil)))) mss_nil)
      (mss_cons (ms_if (tm_not (tm_truth (m_isi (T := "tuple") (by decide) rfl T.b_isinstance (m_var (pv 0)) (pe_bltn (v := .ty "tuple") (u := .type "tuple") (by rfl) T.b_tuple (by decide +kernel) rfl)))) (mss_one (ms_ret (m_def T.d_is_within IH.is_within hR (takes_of rfl rfl rfl rfl) (ma_cons (m_var (pv 0)) (ma_cons m_int (ma_cons (m_sub (m_ints rfl T.k_ROUND) m_int) ma_nil)))))) mss_nil)
      (mss_cons (ms_if (tm_pw (tw_or (tm_cmpG c_lt (m_var (pv 1)) m_int (nomark _)) (tw_or (tm_not (tm_truth (m_var (pv 0)))) (tw_or1 (tm_not (tm_truth (m_isi (T := "str") (by decide) rfl T.b_isinstance (m_sub' hR.hu1 (m_var (pv 0)) m_int) (pe_bltn (v := .ty "str") (u := .type "str") (by rfl) T.b_str (by decide +kernel) rfl)))))))) (mss_one (ms_ret m_bl)) mss_nil)
      (mss_cons (ms_if (tm_pw (tw_or (tm_pw (tw_and (tm_in hR.hu65 (m_sub' hR.hu1 (m_var (pv 0)) m_int) (m_strs rfl T.k_WORDS)) (tw_and1 (tm_cmpG (c_eq hR.hu) (m_len rfl T.b_len (m_var (pv 0))) m_int (nomark _))))) (tw_or1 (tm_pw (tw_and (tm_cmpG (c_eq hR.hu) (m_sub' hR.hu1 (m_var (pv 0)) m_int) m_str (nomark _)) (tw_and1 (tm_cmpG (c_eq hR.hu) (m_len rfl T.b_len (m_var (pv 0))) m_int (nomark _)))))))) (mss_one (ms_ret (m_notT (m_lc (own := [("part", 2)]) rfl nd (im_any (m_sli (m_var (pv 0)) (mo_some m_int) mo_none)) (blkOk_by (own := [("part", 2)]) (N := N_is_sum) (sc := defScope s_is_sum) (by decide +kernel)) (fun _ _ _ _ _ => (pg_name (i := 2) nd rfl (.inl rfl))) tg_name (by decide) (fun _ _ _ _ _ => (mts_one (tm_not (tm_truth (m_def T.d_is_sum IH.is_sum hR LamX.takes0 (ma_cons (m_var (pv 2)) (ma_cons (m_sub (m_var (pv 1)) m_int) ma_nil))))))) (fun _ _ _ _ _ => (m_var (pv 2))))))) mss_nil)
      (mss_one (ms_ret m_bl))))))
theorem d_is_row (T : Txt K mg) (IH : FnDs P wd K mg base n c) : FnD P wd K mg base (n + 1) (fa_ K "is_row") (fdOf K (fa_ K "is_row")) ["thing"] (spM (G K) (f_is_row c)) := by
  have nd := sc_is_row.nd
  exact fnd_T T.d_is_row.h sc_is_row rfl rfl fun cdv A outer s H E hR => (mss_cons (ms_if (tm_pw (tw_or (tm_not (tm_truth (m_isi (T := "tuple") (by decide) rfl T.b_isinstance (m_var (pv 0)) (pe_bltn (v := .ty "tuple") (u := .type "tuple") (by rfl) T.b_tuple (by decide +kernel) rfl)))) (tw_or (tm_not (tm_truth (m_var (pv 0)))) (tw_or1 (tm_not (tm_truth (m_isi (T := "str") (by decide) rfl T.b_isinstance (m_sub' hR.hu1 (m_var (pv 0)) m_int) (pe_bltn (v := .ty "str") (u := .type "str") (by rfl) T.b_str (by decide +kernel) rfl)))))))) (mss_one (ms_ret m_bl)) mss_nil)
      (mss_cons (ms_if (tm_cmpG (c_eq hR.hu) (m_sub' hR.hu1 (m_var (pv 0)) m_int) m_str (nomark _)) (mss_one (ms_ret (m_and (m_cmpG (c_eq hR.hu) (m_len rfl T.b_len (m_var (pv 0))) m_int (nomark _)) (m_one (m_def T.d_is_sum IH.is_sum hR (takes_of rfl rfl rfl rfl) (ma_cons (m_sub' hR.hu1 (m_var (pv 0)) m_int) (ma_cons (m_ints rfl T.k_MOST_DEEP) ma_nil))))))) mss_nil)
      (mss_one (ms_ret (m_and (m_cmpG (c_eq hR.hu) (m_sub' hR.hu1 (m_var (pv 0)) m_int) m_str (nomark _)) (m_and (m_cmpG (c_eq hR.hu) (m_len rfl T.b_len (m_var (pv 0))) m_int (nomark _)) (m_and (m_def T.d_is_name IH.is_name hR (takes_of rfl rfl rfl rfl) (ma_cons (m_sub' hR.hu1 (m_var (pv 0)) m_int) ma_nil)) (m_one (m_def T.d_is_sum IH.is_sum hR (takes_of rfl rfl rfl rfl) (ma_cons (m_sub' hR.hu1 (m_var (pv 0)) m_int) (ma_cons (m_ints rfl T.k_MOST_DEEP) ma_nil)))))))))))
theorem d_is_source (T : Txt K mg) (IH : FnDs P wd K mg base n c) : FnD P wd K mg base (n + 1) (fa_ K "is_source") (fdOf K (fa_ K "is_source")) ["thing"] (spM (G K) (f_is_source c)) := by
  have nd := sc_is_source.nd
  exact fnd_T T.d_is_source.h sc_is_source rfl rfl fun cdv A outer s H E hR => (mss_cons (ms_if (tm_pw (tw_or (tm_not (tm_truth (m_isi (T := "tuple") (by decide) rfl T.b_isinstance (m_var (pv 0)) (pe_bltn (v := .ty "tuple") (u := .type "tuple") (by rfl) T.b_tuple (by decide +kernel) rfl)))) (tw_or1 (tm_cmpG c_gt (m_len rfl T.b_len (m_var (pv 0))) (m_ints rfl T.k_MOST_ROWS) (nomark _))))) (mss_one (ms_ret m_bl)) mss_nil)
      (mss_one (ms_ret (m_notT (m_lc (own := [("row", 1)]) rfl nd (im_any (m_var (pv 0))) (blkOk_by (own := [("row", 1)]) (N := N_is_source) (sc := defScope s_is_source) (by decide +kernel)) (fun _ _ _ _ _ => (pg_name (i := 1) nd rfl (.inl rfl))) tg_name (by decide) (fun _ _ _ _ _ => (mts_one (tm_not (tm_truth (m_def T.d_is_row IH.is_row hR LamX.takes0 (ma_cons (m_var (pv 1)) ma_nil)))))) (fun _ _ _ _ _ => (m_var (pv 1))))))))
theorem d_look (T : Txt K mg) (IH : FnDs P wd K mg base n c) : FnD P wd K mg base (n + 1) (fa_ K "look") (fdOf K (fa_ K "look")) ["source"] (spM (G K) (f_look c)) := by
  have nd := sc_look.nd
  exact fnd_T T.d_look.h sc_look rfl rfl fun cdv A outer s H E hR => (mss_one (ms_if (tm_not (tm_truth (m_def T.d_is_source IH.is_source hR (takes_of rfl rfl rfl rfl) (ma_cons (m_var (pv 0)) ma_nil)))) (mss_one (ms_rais rfl (takes_of rfl rfl rfl rfl) T.x_BadSource rfl)) mss_nil))
theorem d_sets_of (T : Txt K mg) (IH : FnDs P wd K mg base n c) : FnD P wd K mg base (n + 1) (fa_ K "sets_of") (fdOf K (fa_ K "sets_of")) ["source"] (spM (G K) (f_sets_of c)) := by
  have nd := sc_sets_of.nd
  exact fnd_T T.d_sets_of.h sc_sets_of rfl rfl fun cdv A outer s H E hR => (mss_one (ms_ret (m_lc (own := [("row", 1)]) rfl nd (im_any (m_var (pv 0))) (blkOk_by (own := [("row", 1)]) (N := N_sets_of) (sc := defScope s_sets_of) (by decide +kernel)) (fun _ _ _ _ _ => (pg_name (i := 1) nd rfl (.inl rfl))) tg_name (by decide) (fun _ _ _ _ _ => (mts_one (tm_cmpG (c_eq hR.hu) (m_sub' hR.hu1 (m_var (pv 1)) m_int) m_str (nomark _)))) (fun _ _ _ _ _ => (m_sub' hR.hu1 (m_var (pv 1)) m_int)))))
theorem d_Cell_init (T : Txt K mg) (IH : FnDs P wd K mg base n c) : FnD P wd K mg base (n + 1) (mt_ K "Cell" "__init__") (fdOf K (mt_ K "Cell" "__init__")) ["self", "source"] (spM (G K) (f_Cell_init c)) := by
  have nd := sc_Cell_init.nd
  exact fnd_A T.i_Cell.h sc_Cell_init rfl rfl fun cdv A outer s H E hR => (mss_cons (ms_fput ⟨T.f_lines⟩ (m_var (pv 0)) (m_var (pv 1)))
      (mss_cons (ms_fput ⟨T.f_count⟩ (m_var (pv 0)) m_int)
      (mss_cons (ms_fput ⟨T.f_struck⟩ (m_var (pv 0)) m_bl)
      (mss_one (ms_fput ⟨T.f_record⟩ (m_var (pv 0)) m_non)))))
theorem d_Notebook_init (T : Txt K mg) (IH : FnDs P wd K mg base n c) : FnD P wd K mg base (n + 1) (mt_ K "Notebook" "__init__") (fdOf K (mt_ K "Notebook" "__init__")) ["self"] (spM (G K) (f_Notebook_init c)) := by
  have nd := sc_Notebook_init.nd
  exact fnd_A T.i_Notebook.h sc_Notebook_init rfl rfl fun cdv A outer s H E hR => (mss_cons (ms_fput ⟨T.f_cells⟩ (m_var (pv 0)) m_dct0)
      (mss_cons (ms_fput ⟨T.f_row⟩ (m_var (pv 0)) (m_lst ma_nil))
      (mss_one (ms_fput ⟨T.f_after⟩ (m_var (pv 0)) m_int))))
end
end Z
set_option Elab.async false
set_option linter.all false
set_option maxRecDepth 100000
set_option maxHeartbeats 4000000
set_option pp.maxSteps 600
set_option pp.deepTerms false
namespace Z
open PySem L2 Evl NdefX LamX
section
variable {P : Program} {wd : World} {K : PySem.W.Frag} {mg : Str → Option Value} {base : Heap} {n : Nat} {c : Calls}
theorem d_Notebook_look_cell (T : Txt K mg) (IH : FnDs P wd K mg base n c) : FnD P wd K mg base (n + 1) (mt_ K "Notebook" "look_cell") (fdOf K (mt_ K "Notebook" "look_cell")) ["self", "number"] (spM (G K) (f_Notebook_look_cell c)) := by
  have nd := sc_Notebook_look_cell.nd
  exact fnd_T T.m_Notebook_look_cell.h sc_Notebook_look_cell rfl rfl fun cdv A outer s H E hR => (mss_one (ms_if (tm_pw (tw_or (tm_not (tm_truth (m_def T.d_is_within IH.is_within hR (takes_of rfl rfl rfl rfl) (ma_cons (m_var (pv 1)) (ma_cons m_int (ma_cons (m_fld ⟨T.f_after⟩ (m_var (pv 0))) ma_nil)))))) (tw_or1 (tm_notin hR.hu65 (m_var (pv 1)) (m_fld ⟨T.f_cells⟩ (m_var (pv 0))))))) (mss_one (ms_rais rfl (takes_of rfl rfl rfl rfl) T.x_NoCell rfl)) mss_nil))
theorem d_Notebook_look_place (T : Txt K mg) (IH : FnDs P wd K mg base n c) : FnD P wd K mg base (n + 1) (mt_ K "Notebook" "look_place") (fdOf K (mt_ K "Notebook" "look_place")) ["self", "place", "most"] (spM (G K) (f_Notebook_look_place c)) := by
  have nd := sc_Notebook_look_place.nd
  exact fnd_T T.m_Notebook_look_place.h sc_Notebook_look_place rfl rfl fun cdv A outer s H E hR => (mss_one (ms_if (tm_not (tm_truth (m_def T.d_is_within IH.is_within hR (takes_of rfl rfl rfl rfl) (ma_cons (m_var (pv 1)) (ma_cons m_int (ma_cons (m_var (pv 2)) ma_nil)))))) (mss_one (ms_rais rfl (takes_of rfl rfl rfl rfl) T.x_BadNumber rfl)) mss_nil))
theorem d_Notebook_put (T : Txt K mg) (IH : FnDs P wd K mg base n c) : FnD P wd K mg base (n + 1) (mt_ K "Notebook" "put") (fdOf K (mt_ K "Notebook" "put")) ["self", "place", "source"] (spM (G K) (f_Notebook_put c)) := by
  have nd := sc_Notebook_put.nd
  exact fnd_A T.m_Notebook_put.h sc_Notebook_put rfl rfl fun cdv A outer s H E hR => (mss_cons (ms_expr (m_met T.m_Notebook_look_place IH.Notebook_look_place rfl hR (takes_of rfl rfl rfl rfl) (m_var (pv 0)) (ma_cons (m_var (pv 1)) (ma_cons (m_len rfl T.b_len (m_fld ⟨T.f_row⟩ (m_var (pv 0)))) ma_nil))))
      (mss_cons (ms_expr (m_def T.d_look IH.look hR (takes_of rfl rfl rfl rfl) (ma_cons (m_var (pv 2)) ma_nil)))
      (mss_cons (ms_if (tm_cmpG (c_eq hR.hu) (m_len rfl T.b_len (m_fld ⟨T.f_row⟩ (m_var (pv 0)))) (m_ints rfl T.k_MOST_CELLS) (nomark _)) (mss_one (ms_rais rfl (takes_of rfl rfl rfl rfl) T.x_Full rfl)) mss_nil)
      (mss_cons (ms_set (i := 3) nd rfl (by first | exact .inl rfl | exact .inr rfl) (m_fld ⟨T.f_after⟩ (m_var (pv 0))))
      (mss_cons (ms_faug ⟨T.f_after⟩ (m_var (pv 0)) m_int)
      (mss_cons (ms_dput hR.hu1 (m_fld ⟨T.f_cells⟩ (m_var (pv 0))) (m_var (pv 3)) (m_mk T.i_Cell IH.mk_Cell rfl hR (takes_of rfl rfl rfl rfl) (ma_cons (m_var (pv 2)) ma_nil)))
      (mss_cons (ms_expr (m_bm PySem.F.slot_list_insert PySem.F.type_list_insert mt_insert gInsert_ok (m_fld ⟨T.f_row⟩ (m_var (pv 0))) (ma_cons (m_var (pv 1)) (ma_cons (m_var (pv 3)) ma_nil))))
      (mss_one (ms_ret (m_var (pv 3)))))))))))
theorem d_Notebook_change (T : Txt K mg) (IH : FnDs P wd K mg base n c) : FnD P wd K mg base (n + 1) (mt_ K "Notebook" "change") (fdOf K (mt_ K "Notebook" "change")) ["self", "number", "version", "source"] (spM (G K) (f_Notebook_change c)) := by
  have nd := sc_Notebook_change.nd
  exact fnd_T T.m_Notebook_change.h sc_Notebook_change rfl rfl fun cdv A outer s H E hR => (mss_cons (ms_expr (m_met T.m_Notebook_look_cell IH.Notebook_look_cell rfl hR (takes_of rfl rfl rfl rfl) (m_var (pv 0)) (ma_cons (m_var (pv 1)) ma_nil)))
      (mss_cons (ms_if (tm_not (tm_truth (m_def T.d_is_within IH.is_within hR (takes_of rfl rfl rfl rfl) (ma_cons (m_var (pv 2)) (ma_cons m_int (ma_cons m_int ma_nil)))))) (mss_one (ms_rais rfl (takes_of rfl rfl rfl rfl) T.x_BadNumber rfl)) mss_nil)
      (mss_cons (ms_expr (m_def T.d_look IH.look hR (takes_of rfl rfl rfl rfl) (ma_cons (m_var (pv 3)) ma_nil)))
      (mss_cons (ms_set (i := 4) nd rfl (by first | exact .inl rfl | exact .inr rfl) (m_sub' hR.hu1 (m_fld ⟨T.f_cells⟩ (m_var (pv 0))) (m_var (pv 1))))
      (mss_cons (ms_if (tm_cmpG (c_ne hR.hu) (m_var (pv 2)) (m_fld ⟨T.f_count⟩ (m_var (pv 4))) (nomark _)) (mss_one (ms_rais rfl (takes_of rfl rfl rfl rfl) T.x_Behind rfl)) mss_nil)
      (mss_cons (ms_fput ⟨T.f_lines⟩ (m_var (pv 4)) (m_var (pv 3)))
      (mss_cons (ms_faug ⟨T.f_count⟩ (m_var (pv 4)) m_int)
      (mss_one (ms_ret (m_fld ⟨T.f_count⟩ (m_var (pv 4))))))))))))
theorem d_Notebook_setter (T : Txt K mg) (IH : FnDs P wd K mg base n c) : FnD P wd K mg base (n + 1) (mt_ K "Notebook" "setter") (fdOf K (mt_ K "Notebook" "setter")) ["self", "number", "name"] (spM (G K) (f_Notebook_setter c)) := by
  have nd := sc_Notebook_setter.nd
  exact fnd_T T.m_Notebook_setter.h sc_Notebook_setter rfl rfl fun cdv A outer s H E hR => (mss_cons (ms_set (i := 3) nd rfl (by first | exact .inl rfl | exact .inr rfl) m_non)
      (mss_cons (ms_for (passes_of rfl) rfl (im_any (m_sli (m_fld ⟨T.f_row⟩ (m_var (pv 0))) mo_none (mo_some (m_bm PySem.F.slot_list_index PySem.F.type_list_index mt_index gIndex_ok (m_fld ⟨T.f_row⟩ (m_var (pv 0))) (ma_cons (m_var (pv 1)) ma_nil))))) (pg_name (i := 4) nd rfl (.inl rfl)) tg_name
      (mss_one (ms_if (tm_pw (tw_and (tm_not (tm_truth (m_fld ⟨T.f_struck⟩ (m_sub' hR.hu1 (m_fld ⟨T.f_cells⟩ (m_var (pv 0))) (m_var (pv 4)))))) (tw_and1 (tm_in hR.hu65 (m_var (pv 2)) (m_def T.d_sets_of IH.sets_of hR (takes_of rfl rfl rfl rfl) (ma_cons (m_fld ⟨T.f_lines⟩ (m_sub' hR.hu1 (m_fld ⟨T.f_cells⟩ (m_var (pv 0))) (m_var (pv 4)))) ma_nil)))))) (mss_one (ms_set (i := 3) nd rfl (by first | exact .inl rfl | exact .inr rfl) (m_var (pv 4)))) mss_nil)))
      (mss_one (ms_ret (m_var (pv 3))))))
theorem d_Notebook_holds (T : Txt K mg) (IH : FnDs P wd K mg base n c) : FnD P wd K mg base (n + 1) (mt_ K "Notebook" "holds") (fdOf K (mt_ K "Notebook" "holds")) ["self", "number", "fresh"] (spM (G K) (f_Notebook_holds c)) := by
  have nd := sc_Notebook_holds.nd
  exact fnd_T T.m_Notebook_holds.h sc_Notebook_holds rfl rfl fun cdv A outer s H E hR => (mss_cons (ms_set (i := 3) nd rfl (by first | exact .inl rfl | exact .inr rfl) (m_fld ⟨T.f_record⟩ (m_sub' hR.hu1 (m_fld ⟨T.f_cells⟩ (m_var (pv 0))) (m_var (pv 1)))))
      (mss_cons (ms_if (tm_pw (tw_or (tm_cmpG c_is (m_var (pv 3)) m_non (nomark _)) (tw_or1 (tm_cmpG (c_ne hR.hu) (m_fld ⟨T.f_lines⟩ (m_var (pv 3))) (m_fld ⟨T.f_lines⟩ (m_sub' hR.hu1 (m_fld ⟨T.f_cells⟩ (m_var (pv 0))) (m_var (pv 1)))) (nomark _))))) (mss_one (ms_ret m_bl)) mss_nil)
      (mss_cons (ms_for (passes_of rfl) rfl (im_any (m_fld ⟨T.f_asked⟩ (m_var (pv 3)))) (pg_tup rfl (pgs_cons (pg_name (i := 4) nd rfl (.inl rfl)) (pgs_cons (pg_name (i := 5) nd rfl (.inl rfl)) pgs_nil))) (tg_tup rfl)
      (mss_cons (ms_set (i := 6) nd rfl (by first | exact .inl rfl | exact .inr rfl) (m_met T.m_Notebook_setter IH.Notebook_setter rfl hR (takes_of rfl rfl rfl rfl) (m_var (pv 0)) (ma_cons (m_var (pv 1)) (ma_cons (m_var (pv 4)) ma_nil))))
      (mss_cons (ms_if (tm_pw (tw_and (tm_cmpG c_isnot (m_var (pv 6)) m_non (nomark _)) (tw_and1 (tm_notin hR.hu65 (m_var (pv 6)) (m_var (pv 2)))))) (mss_one (ms_ret m_bl)) mss_nil)
      (mss_one (ms_if (tm_cmpG (c_ne hR.hu) (m_var (pv 5)) (m_met T.m_Notebook_last_told IH.Notebook_last_told rfl hR (takes_of rfl rfl rfl rfl) (m_var (pv 0)) (ma_cons (m_var (pv 6)) (ma_cons (m_var (pv 4)) ma_nil))) (nomark _)) (mss_one (ms_ret m_bl)) mss_nil)))))
      (mss_one (ms_ret m_bl)))))
theorem d_Notebook_last_told (T : Txt K mg) (IH : FnDs P wd K mg base n c) : FnD P wd K mg base (n + 1) (mt_ K "Notebook" "last_told") (fdOf K (mt_ K "Notebook" "last_told")) ["self", "number", "name"] (spM (G K) (f_Notebook_last_told c)) := by
  have nd := sc_Notebook_last_told.nd
  exact fnd_T T.m_Notebook_last_told.h sc_Notebook_last_told rfl rfl fun cdv A outer s H E hR => (mss_cons (ms_if (tm_cmpG c_is (m_var (pv 1)) m_non (nomark _)) (mss_one (ms_ret m_non)) mss_nil)
      (mss_one (ms_ret (m_get2 hR.hu1 (m_fld ⟨T.f_sets⟩ (m_fld ⟨T.f_record⟩ (m_sub' hR.hu1 (m_fld ⟨T.f_cells⟩ (m_var (pv 0))) (m_var (pv 1))))) (m_var (pv 2)) m_non))))
theorem d_Notebook_fresh (T : Txt K mg) (IH : FnDs P wd K mg base n c) : FnD P wd K mg base (n + 1) (mt_ K "Notebook" "fresh") (fdOf K (mt_ K "Notebook" "fresh")) ["self"] (spM (G K) (f_Notebook_fresh c)) := by
  have nd := sc_Notebook_fresh.nd
  exact fnd_T T.m_Notebook_fresh.h sc_Notebook_fresh rfl rfl fun cdv A outer s H E hR => (mss_cons (ms_set (i := 1) nd rfl (by first | exact .inl rfl | exact .inr rfl) (m_lst ma_nil))
      (mss_cons (ms_for (passes_of rfl) rfl (im_any (m_fld ⟨T.f_row⟩ (m_var (pv 0)))) (pg_name (i := 2) nd rfl (.inl rfl)) tg_name
      (mss_one (ms_if (tm_pw (tw_and (tm_not (tm_truth (m_fld ⟨T.f_struck⟩ (m_sub' hR.hu1 (m_fld ⟨T.f_cells⟩ (m_var (pv 0))) (m_var (pv 2)))))) (tw_and1 (tm_truth (m_met T.m_Notebook_holds IH.Notebook_holds rfl hR (takes_of rfl rfl rfl rfl) (m_var (pv 0)) (ma_cons (m_var (pv 2)) (ma_cons (m_var (pv 1)) ma_nil))))))) (mss_one (ms_expr (m_bm PySem.F.slot_list_append PySem.F.type_list_append mt_append gAppend_ok (m_var (pv 1)) (ma_cons (m_var (pv 2)) ma_nil)))) mss_nil)))
      (mss_one (ms_ret (m_var (pv 1))))))
theorem d_Notebook_state (T : Txt K mg) (IH : FnDs P wd K mg base n c) : FnD P wd K mg base (n + 1) (mt_ K "Notebook" "state") (fdOf K (mt_ K "Notebook" "state")) ["self", "number"] (spM (G K) (f_Notebook_state c)) := by
  have nd := sc_Notebook_state.nd
  exact fnd_T T.m_Notebook_state.h sc_Notebook_state rfl rfl fun cdv A outer s H E hR => (mss_cons (ms_expr (m_met T.m_Notebook_look_cell IH.Notebook_look_cell rfl hR (takes_of rfl rfl rfl rfl) (m_var (pv 0)) (ma_cons (m_var (pv 1)) ma_nil)))
      (mss_cons (ms_if (tm_truth (m_fld ⟨T.f_struck⟩ (m_sub' hR.hu1 (m_fld ⟨T.f_cells⟩ (m_var (pv 0))) (m_var (pv 1))))) (mss_one (ms_ret m_str)) mss_nil)
      (mss_cons (ms_if (tm_cmpG c_is (m_fld ⟨T.f_record⟩ (m_sub' hR.hu1 (m_fld ⟨T.f_cells⟩ (m_var (pv 0))) (m_var (pv 1)))) m_non (nomark _)) (mss_one (ms_ret m_str)) mss_nil)
      (mss_one (ms_ret (m_if (tm_in hR.hu65 (m_var (pv 1)) (m_met0 T.m_Notebook_fresh IH.Notebook_fresh rfl hR (takes_of rfl rfl rfl rfl) (m_var (pv 0)))) m_str m_str))))))
end
end Z
set_option Elab.async false
set_option linter.all false
set_option maxRecDepth 100000
set_option maxHeartbeats 4000000
set_option pp.maxSteps 600
set_option pp.deepTerms false
namespace Z
open PySem L2 Evl NdefX LamX
section
variable {P : Program} {wd : World} {K : PySem.W.Frag} {mg : Str → Option Value} {base : Heap} {n : Nat} {c : Calls}
theorem d_Notebook_source (T : Txt K mg) (IH : FnDs P wd K mg base n c) : FnD P wd K mg base (n + 1) (mt_ K "Notebook" "source") (fdOf K (mt_ K "Notebook" "source")) ["self", "number"] (spM (G K) (f_Notebook_source c)) := by
  have nd := sc_Notebook_source.nd
  exact fnd_T T.m_Notebook_source.h sc_Notebook_source rfl rfl fun cdv A outer s H E hR => (mss_cons (ms_expr (m_met T.m_Notebook_look_cell IH.Notebook_look_cell rfl hR (takes_of rfl rfl rfl rfl) (m_var (pv 0)) (ma_cons (m_var (pv 1)) ma_nil)))
      (mss_one (ms_ret (m_fld ⟨T.f_lines⟩ (m_sub' hR.hu1 (m_fld ⟨T.f_cells⟩ (m_var (pv 0))) (m_var (pv 1)))))))
theorem d_Notebook_version (T : Txt K mg) (IH : FnDs P wd K mg base n c) : FnD P wd K mg base (n + 1) (mt_ K "Notebook" "version") (fdOf K (mt_ K "Notebook" "version")) ["self", "number"] (spM (G K) (f_Notebook_version c)) := by
  have nd := sc_Notebook_version.nd
  exact fnd_T T.m_Notebook_version.h sc_Notebook_version rfl rfl fun cdv A outer s H E hR => (mss_cons (ms_expr (m_met T.m_Notebook_look_cell IH.Notebook_look_cell rfl hR (takes_of rfl rfl rfl rfl) (m_var (pv 0)) (ma_cons (m_var (pv 1)) ma_nil)))
      (mss_one (ms_ret (m_fld ⟨T.f_count⟩ (m_sub' hR.hu1 (m_fld ⟨T.f_cells⟩ (m_var (pv 0))) (m_var (pv 1)))))))
theorem d_law_cell (T : Txt K mg) (IH : FnDs P wd K mg base n c) : FnD P wd K mg base (n + 1) (fa_ K "_law_cell") (fdOf K (fa_ K "_law_cell")) ["_law_script", "_law_k"] (spM (G K) (f_law_cell c)) := by
  have nd := sc_law_cell.nd
  exact fnd_T T.d_law_cell.h sc_law_cell rfl rfl fun cdv A outer s H E hR => (mss_cons (ms_if (tm_cmpG c_lt (m_var (pv 1)) (m_len rfl T.b_len (m_var (pv 0))) (nomark _)) (mss_one (ms_ret (m_sub' hR.hu1 (m_var (pv 0)) (m_var (pv 1))))) mss_nil)
      (mss_one (ms_ret m_int)))
theorem d_law_seed (T : Txt K mg) (IH : FnDs P wd K mg base n c) : FnD P wd K mg base (n + 1) (fa_ K "_law_seed") (fdOf K (fa_ K "_law_seed")) ["_law_seed_here", "_law_k"] (spM (G K) (f_law_seed c)) := by
  have nd := sc_law_seed.nd
  exact fnd_T T.d_law_seed.h sc_law_seed rfl rfl fun cdv A outer s H E hR => (mss_one (ms_ret (m_mod (m_pow (m_mod (m_add (m_add (m_mul (m_var (pv 0)) m_int) (m_mul m_int (m_var (pv 1)))) m_int) m_int) m_int) m_int)))
theorem d_law_pick (T : Txt K mg) (IH : FnDs P wd K mg base n c) : FnD P wd K mg base (n + 1) (fa_ K "_law_pick") (fdOf K (fa_ K "_law_pick")) ["_law_seed_here", "_law_many"] (spM (G K) (f_law_pick c)) := by
  have nd := sc_law_pick.nd
  exact fnd_T T.d_law_pick.h sc_law_pick rfl rfl fun cdv A outer s H E hR => (mss_one (ms_ret (m_mod (m_div (m_var (pv 0)) m_int) (m_var (pv 1)))))
theorem d_law_sum (T : Txt K mg) (IH : FnDs P wd K mg base n c) : FnD P wd K mg base (n + 1) (fa_ K "_law_sum") (fdOf K (fa_ K "_law_sum")) ["_law_seed_here", "_law_deep"] (spM (G K) (f_law_sum c)) := by
  have nd := sc_law_sum.nd
  exact fnd_T T.d_law_sum.h sc_law_sum rfl rfl fun cdv A outer s H E hR => (mss_cons (ms_if (tm_pw (tw_or (tm_cmpG c_lt (m_var (pv 1)) m_int (nomark _)) (tw_or1 (tm_cmpG (c_eq hR.hu) (m_def T.d_law_pick IH.law_pick hR (takes_of rfl rfl rfl rfl) (ma_cons (m_var (pv 0)) (ma_cons m_int ma_nil))) m_int (nomark _))))) (mss_cons (ms_set (i := 2) nd rfl (by first | exact .inl rfl | exact .inr rfl) (m_frz (m_lst (ma_cons (m_mod (m_div (m_var (pv 0)) m_int) m_int) (ma_cons (m_mod (m_div (m_var (pv 0)) m_int) m_int) (ma_cons (m_mod (m_div (m_var (pv 0)) m_int) m_int) (ma_cons m_int ma_nil)))))))
      (mss_one (ms_ret (m_sub' hR.hu1 (m_add (m_var (pv 2)) (m_frz (m_lst (ma_cons m_str (ma_cons m_str (ma_cons m_str (ma_cons m_str (ma_cons m_str (ma_cons m_str ma_nil))))))))) (m_mod (m_div (m_var (pv 0)) m_int) m_int))))) mss_nil)
      (mss_cons (ms_lc (i := 4) (own := [("_law_k", 3)]) rfl nd rfl rfl (sw_true rfl rfl rfl (by decide +kernel)) (im_range1 rfl T.b_range m_int) (blkOk_by (own := [("_law_k", 3)]) (N := N_law_sum) (sc := defScope s_law_sum) (by decide +kernel)) (fun _ _ _ _ _ => (pg_name (i := 3) nd rfl (.inl rfl))) tg_name (by decide) (fun _ _ _ _ _ => mts_nil) (fun _ _ _ _ _ => (m_def T.d_law_sum IH.law_sum hR LamX.takes0 (ma_cons (m_def T.d_law_seed IH.law_seed hR LamX.takes0 (ma_cons (m_var (pv 0)) (ma_cons (m_var (pv 3)) ma_nil))) (ma_cons (m_sub (m_var (pv 1)) m_int) ma_nil)))))
      (mss_cons (ms_set (i := 5) nd rfl (by first | exact .inl rfl | exact .inr rfl) (m_sub' hR.hu1 (m_frz (m_lst (ma_cons m_str (ma_cons m_str (ma_cons m_str (ma_cons m_str (ma_cons m_str (ma_cons m_str (ma_cons m_str ma_nil))))))))) (m_mod (m_div (m_var (pv 0)) m_int) m_int)))
      (mss_one (ms_ret (m_if (tm_cmpG (c_eq hR.hu) (m_var (pv 5)) m_str (nomark _)) (m_tup (ma_cons m_str (ma_cons (m_sub' hR.hu1 (m_var (pv 4)) m_int) (ma_cons (m_sub' hR.hu1 (m_var (pv 4)) m_int) (ma_cons (m_sub' hR.hu1 (m_var (pv 4)) m_int) ma_nil))))) (m_tup (ma_cons (m_var (pv 5)) (ma_cons (m_sub' hR.hu1 (m_var (pv 4)) m_int) (ma_cons (m_sub' hR.hu1 (m_var (pv 4)) m_int) ma_nil))))))))))
theorem d_law_source (T : Txt K mg) (IH : FnDs P wd K mg base n c) : FnD P wd K mg base (n + 1) (fa_ K "_law_source") (fdOf K (fa_ K "_law_source")) ["_law_seed_here"] (spM (G K) (f_law_source c)) := by
  have nd := sc_law_source.nd
  exact fnd_T T.d_law_source.h sc_law_source rfl rfl fun cdv A outer s H E hR => (mss_cons (ms_set (i := 1) nd rfl (by first | exact .inl rfl | exact .inr rfl) (m_lst ma_nil))
      (mss_cons (ms_for (passes_of rfl) rfl (im_range1 rfl T.b_range (m_sub' hR.hu1 (m_frz (m_lst (ma_cons (m_mod (m_div (m_var (pv 0)) m_int) m_int) (ma_cons (m_add m_int (m_mod (m_div (m_var (pv 0)) m_int) m_int)) (ma_cons (m_mod (m_div (m_var (pv 0)) m_int) m_int) ma_nil))))) (m_mod (m_div (m_var (pv 0)) m_int) m_int))) (pg_name (i := 2) nd rfl (.inl rfl)) tg_name
      (mss_cons (ms_set (i := 3) nd rfl (by first | exact .inl rfl | exact .inr rfl) (m_def T.d_law_seed IH.law_seed hR (takes_of rfl rfl rfl rfl) (ma_cons (m_var (pv 0)) (ma_cons (m_add m_int (m_var (pv 2))) ma_nil))))
      (mss_cons (ms_set (i := 4) nd rfl (by first | exact .inl rfl | exact .inr rfl) (m_def T.d_law_sum IH.law_sum hR (takes_of rfl rfl rfl rfl) (ma_cons (m_def T.d_law_seed IH.law_seed hR (takes_of rfl rfl rfl rfl) (ma_cons (m_var (pv 3)) (ma_cons m_int ma_nil))) (ma_cons (m_sub' hR.hu1 (m_frz (m_lst (ma_cons (m_mod (m_div (m_var (pv 3)) m_int) m_int) (ma_cons m_int ma_nil)))) (m_callTy (CallR.or call_int1 call_int_str) gToInt_ok rfl T.b_int (by decide +kernel) (ma_cons (m_cmpG (c_eq hR.hu) (m_mod (m_div (m_var (pv 3)) m_int) m_int) m_int (nomark _)) ma_nil))) ma_nil))))
      (mss_one (ms_if (tm_cmpG c_gt (m_def T.d_law_pick IH.law_pick hR (takes_of rfl rfl rfl rfl) (ma_cons (m_var (pv 3)) (ma_cons m_int ma_nil))) m_int (nomark _)) (mss_one (ms_expr (m_bm PySem.F.slot_list_append PySem.F.type_list_append mt_append gAppend_ok (m_var (pv 1)) (ma_cons (m_tup (ma_cons m_str (ma_cons (m_sub' hR.hu1 (m_frz (m_lst (ma_cons m_str (ma_cons m_str (ma_cons m_str (ma_cons m_str ma_nil)))))) (m_mod (m_div (m_var (pv 3)) m_int) m_int)) (ma_cons (m_var (pv 4)) ma_nil)))) ma_nil)))) (mss_one (ms_expr (m_bm PySem.F.slot_list_append PySem.F.type_list_append mt_append gAppend_ok (m_var (pv 1)) (ma_cons (m_tup (ma_cons m_str (ma_cons (m_var (pv 4)) ma_nil))) ma_nil)))))))))
      (mss_one (ms_ret (m_callTy call_tuple_of gTuple_ok rfl T.b_tuple (by decide +kernel) (ma_cons (m_var (pv 1)) ma_nil))))))
theorem d_law (T : Txt K mg) (IH : FnDs P wd K mg base n c) : FnD P wd K mg base (n + 1) (fa_ K "law") (fdOf K (fa_ K "law")) ["_law_script"] (spM (G K) (f_law c)) := by
  have nd := sc_law.nd
  exact fnd_A T.d_law.h sc_law rfl rfl fun cdv A outer s H E hR => (mss_cons (ms_set (i := 1) nd rfl (by first | exact .inl rfl | exact .inr rfl) (m_mk0 T.i_Notebook IH.mk_Notebook rfl hR (takes_of rfl rfl rfl rfl)))
      (mss_cons (ms_set (i := 2) nd rfl (by first | exact .inl rfl | exact .inr rfl) (m_add m_int (m_mod (m_def T.d_law_cell IH.law_cell hR (takes_of rfl rfl rfl rfl) (ma_cons (m_var (pv 0)) (ma_cons m_int ma_nil))) m_int)))
      (mss_cons (ms_lc (i := 4) (own := [("_law_k", 3)]) rfl nd rfl rfl (sw_true rfl rfl rfl (by decide +kernel)) (im_range1 rfl T.b_range (m_var (pv 2))) (blkOk_by (own := [("_law_k", 3)]) (N := N_law) (sc := defScope s_law) (by decide +kernel)) (fun _ _ _ _ _ => (pg_name (i := 3) nd rfl (.inl rfl))) tg_name (by decide) (fun _ _ _ _ _ => mts_nil) (fun _ _ _ _ _ => (m_def T.d_law_source IH.law_source hR LamX.takes0 (ma_cons (m_def T.d_law_seed IH.law_seed hR LamX.takes0 (ma_cons (m_def T.d_law_cell IH.law_cell hR LamX.takes0 (ma_cons (m_var (pv 0)) (ma_cons m_int ma_nil))) (ma_cons (m_var (pv 3)) ma_nil))) ma_nil))))
      (mss_cons (ms_for (passes_of rfl) rfl (im_range1 rfl T.b_range (m_var (pv 2))) (pg_name (i := 3) nd rfl (.inl rfl)) tg_name
      (mss_one (ms_expr (m_met T.m_Notebook_put IH.Notebook_put rfl hR (takes_of rfl rfl rfl rfl) (m_var (pv 1)) (ma_cons (m_var (pv 3)) (ma_cons (m_sub' hR.hu1 (m_var (pv 4)) (m_var (pv 3))) ma_nil))))))
      (mss_cons (ms_set (i := 5) nd rfl (by first | exact .inl rfl | exact .inr rfl) (m_mul (m_frz (m_lst (ma_cons m_int ma_nil))) (m_var (pv 2))))
      (mss_cons (ms_set (i := 6) nd rfl (by first | exact .inl rfl | exact .inr rfl) (m_lst (ma_cons (m_mul (m_frz (m_lst (ma_cons m_int ma_nil))) (m_var (pv 2))) (ma_cons (m_mul (m_frz (m_lst (ma_cons m_int ma_nil))) (m_var (pv 2))) ma_nil))))
      (mss_cons (ms_for (passes_of rfl) rfl (im_range1 rfl T.b_range (m_mod (m_def T.d_law_cell IH.law_cell hR (takes_of rfl rfl rfl rfl) (ma_cons (m_var (pv 0)) (ma_cons m_int ma_nil))) m_int)) (pg_name (i := 3) nd rfl (.inl rfl)) tg_name
      (mss_cons (ms_set (i := 7) nd rfl (by first | exact .inl rfl | exact .inr rfl) (m_def T.d_law_seed IH.law_seed hR (takes_of rfl rfl rfl rfl) (ma_cons (m_add (m_def T.d_law_cell IH.law_cell hR (takes_of rfl rfl rfl rfl) (ma_cons (m_var (pv 0)) (ma_cons (m_add m_int (m_mod (m_var (pv 3)) m_int)) ma_nil))) (m_mul m_int (m_var (pv 3)))) (ma_cons (m_var (pv 3)) ma_nil))))
      (mss_cons (ms_set (i := 8) nd rfl (by first | exact .inl rfl | exact .inr rfl) (m_mod (m_div (m_var (pv 7)) m_int) m_int))
      (mss_cons (ms_set (i := 9) nd rfl (by first | exact .inl rfl | exact .inr rfl) (m_mod (m_div (m_var (pv 7)) m_int) (m_var (pv 2))))
      (mss_cons (ms_if (tm_cmpG (c_eq hR.hu) (m_def T.d_law_pick IH.law_pick hR (takes_of rfl rfl rfl rfl) (ma_cons (m_var (pv 7)) (ma_cons m_int ma_nil))) m_int (nomark _)) (mss_one (ms_lput (m_var (pv 6)) (m_var (pv 8)) (m_lc (own := [("_law_one", 10)]) rfl nd (im_range1 rfl T.b_range (m_var (pv 2))) (blkOk_by (own := [("_law_one", 10)]) (N := N_law) (sc := defScope s_law) (by decide +kernel)) (fun _ _ _ _ _ => (pg_name (i := 10) nd rfl (.inl rfl))) tg_name (by decide) (fun _ _ _ _ _ => mts_nil) (fun _ _ _ _ _ => (m_met T.m_Notebook_version IH.Notebook_version rfl hR LamX.takes0 (m_var (pv 1)) (ma_cons (m_var (pv 10)) ma_nil)))))) (mss_cons (ms_set (i := 11) nd rfl (by first | exact .inl rfl | exact .inr rfl) (m_def T.d_law_source IH.law_source hR (takes_of rfl rfl rfl rfl) (ma_cons (m_def T.d_law_seed IH.law_seed hR (takes_of rfl rfl rfl rfl) (ma_cons (m_var (pv 7)) (ma_cons m_int ma_nil))) ma_nil)))
      (mss_cons (ms_set (i := 12) nd rfl (by first | exact .inl rfl | exact .inr rfl) m_bl)
      (mss_cons (ms_set (i := 13) nd rfl (by first | exact .inl rfl | exact .inr rfl) m_non)
      (mss_cons (ms_try rfl rfl ⟨rfl, by decide, .inl T.x_Behind.g⟩ (takes_of rfl rfl rfl rfl) T.ct_Behind (fun W' pn xe tkt pot => (mss_one (ms_set (i := 13) nd rfl (by first | exact .inl rfl | exact .inr rfl) (m_met T.m_Notebook_change IH.Notebook_change rfl hR tkt (m_var (pv 1)) (ma_cons (m_var (pv 9)) (ma_cons (m_sub' hR.hu1 (m_sub' hR.hu1 (m_var (pv 6)) (m_var (pv 8))) (m_var (pv 9))) (ma_cons (m_var (pv 11)) ma_nil)))))))
      (fun a oe cls d pn _ _ => (mss_one (ms_set (i := 12) nd rfl (by first | exact .inl rfl | exact .inr rfl) m_bl))))
      (mss_cons (ms_if (tm_cmpG (c_ne hR.hu) (m_var (pv 12)) (m_cmpG (c_ne hR.hu) (m_sub' hR.hu1 (m_sub' hR.hu1 (m_var (pv 6)) (m_var (pv 8))) (m_var (pv 9))) (m_sub' hR.hu1 (m_var (pv 5)) (m_var (pv 9))) (nomark _)) (nomark _)) (mss_one (ms_ret m_bl)) mss_nil)
      (mss_one (ms_if (tm_not (tm_truth (m_var (pv 12)))) (mss_cons (ms_laug (m_var (pv 5)) (m_var (pv 9)) m_int)
      (mss_cons (ms_lput (m_var (pv 4)) (m_var (pv 9)) (m_var (pv 11)))
      (mss_cons (ms_lput (m_sub' hR.hu1 (m_var (pv 6)) (m_var (pv 8))) (m_var (pv 9)) (m_var (pv 13)))
      (mss_one (ms_if (tm_cmpG (c_ne hR.hu) (m_var (pv 13)) (m_sub' hR.hu1 (m_var (pv 5)) (m_var (pv 9))) (nomark _)) (mss_one (ms_ret m_bl)) mss_nil))))) mss_nil))))))))
      (mss_cons (ms_if (tm_cmpG (c_ne hR.hu) (m_lc (own := [("_law_one", 10)]) rfl nd (im_range1 rfl T.b_range (m_var (pv 2))) (blkOk_by (own := [("_law_one", 10)]) (N := N_law) (sc := defScope s_law) (by decide +kernel)) (fun _ _ _ _ _ => (pg_name (i := 10) nd rfl (.inl rfl))) tg_name (by decide) (fun _ _ _ _ _ => mts_nil) (fun _ _ _ _ _ => (m_met T.m_Notebook_version IH.Notebook_version rfl hR LamX.takes0 (m_var (pv 1)) (ma_cons (m_var (pv 10)) ma_nil)))) (m_var (pv 5)) (nomark _)) (mss_one (ms_ret m_bl)) mss_nil)
      (mss_one (ms_if (tm_cmpG (c_ne hR.hu) (m_lc (own := [("_law_one", 10)]) rfl nd (im_range1 rfl T.b_range (m_var (pv 2))) (blkOk_by (own := [("_law_one", 10)]) (N := N_law) (sc := defScope s_law) (by decide +kernel)) (fun _ _ _ _ _ => (pg_name (i := 10) nd rfl (.inl rfl))) tg_name (by decide) (fun _ _ _ _ _ => mts_nil) (fun _ _ _ _ _ => (m_met T.m_Notebook_source IH.Notebook_source rfl hR LamX.takes0 (m_var (pv 1)) (ma_cons (m_var (pv 10)) ma_nil)))) (m_var (pv 4)) (nomark _)) (mss_one (ms_ret m_bl)) mss_nil))))))))
      (mss_one (ms_ret (m_and (m_cmpG (c_eq hR.hu) (m_met0 T.m_Notebook_fresh IH.Notebook_fresh rfl hR (takes_of rfl rfl rfl rfl) (m_var (pv 1))) (m_frz (m_lst ma_nil)) (nomark _)) (m_one (m_cmpG (c_eq hR.hu) (m_lc (own := [("_law_one", 10)]) rfl nd (im_range1 rfl T.b_range (m_var (pv 2))) (blkOk_by (own := [("_law_one", 10)]) (N := N_law) (sc := defScope s_law) (by decide +kernel)) (fun _ _ _ _ _ => (pg_name (i := 10) nd rfl (.inl rfl))) tg_name (by decide) (fun _ _ _ _ _ => mts_nil) (fun _ _ _ _ _ => (m_met T.m_Notebook_state IH.Notebook_state rfl hR LamX.takes0 (m_var (pv 1)) (ma_cons (m_var (pv 10)) ma_nil)))) (m_mul (m_frz (m_lst (ma_cons m_str ma_nil))) (m_var (pv 2))) (nomark _)))))))))))))
end
end Z
set_option Elab.async false
set_option linter.all false
set_option maxRecDepth 100000
set_option maxHeartbeats 4000000
set_option pp.maxSteps 600
set_option pp.deepTerms false
namespace Z
open PySem L2 Evl NdefX LamX
section
variable {P : Program} {wd : World} {K : PySem.W.Frag} {mg : Str → Option Value} {base : Heap} {n : Nat} {c : Calls}
theorem all_ok (T : Txt K mg) : ∀ n, FnDs P wd K mg base n (F n)
  | 0 => { is_within := fnd_stuck, is_name := fnd_stuck, is_sum := fnd_stuck, is_row := fnd_stuck, is_source := fnd_stuck, look := fnd_stuck, sets_of := fnd_stuck, Cell_init := fnd_stuck, Notebook_init := fnd_stuck, Notebook_look_cell := fnd_stuck, Notebook_look_place := fnd_stuck, Notebook_put := fnd_stuck, Notebook_change := fnd_stuck, Notebook_setter := fnd_stuck, Notebook_holds := fnd_stuck, Notebook_last_told := fnd_stuck, Notebook_fresh := fnd_stuck, Notebook_state := fnd_stuck, Notebook_source := fnd_stuck, Notebook_version := fnd_stuck, law_cell := fnd_stuck, law_seed := fnd_stuck, law_pick := fnd_stuck, law_sum := fnd_stuck, law_source := fnd_stuck, law := fnd_stuck, mk_Notebook := mkd_stuck, mk_Cell := mkd_stuck, clo := fun id st h => by cases h }
  | n + 1 => by
    have IH := all_ok T n
    exact { is_within := d_is_within T IH, is_name := d_is_name T IH, is_sum := d_is_sum T IH, is_row := d_is_row T IH, is_source := d_is_source T IH, look := d_look T IH, sets_of := d_sets_of T IH, Cell_init := d_Cell_init T IH, Notebook_init := d_Notebook_init T IH, Notebook_look_cell := d_Notebook_look_cell T IH, Notebook_look_place := d_Notebook_look_place T IH, Notebook_put := d_Notebook_put T IH, Notebook_change := d_Notebook_change T IH, Notebook_setter := d_Notebook_setter T IH, Notebook_holds := d_Notebook_holds T IH, Notebook_last_told := d_Notebook_last_told T IH, Notebook_fresh := d_Notebook_fresh T IH, Notebook_state := d_Notebook_state T IH, Notebook_source := d_Notebook_source T IH, Notebook_version := d_Notebook_version T IH, law_cell := d_law_cell T IH, law_seed := d_law_seed T IH, law_pick := d_law_pick T IH, law_sum := d_law_sum T IH, law_source := d_law_source T IH, law := d_law T IH, mk_Notebook := mkd_step IH.Notebook_init, mk_Cell := mkd_step IH.Cell_init, clo := fun id st h => by cases h }
end
end Z
set_option Elab.async false
set_option linter.all false
set_option maxRecDepth 100000
set_option maxHeartbeats 0
set_option pp.maxSteps 600
set_option pp.deepTerms false
namespace Z
open PySem PySem.Spec L2 Evl NdefX LamX PyProof.Rows
def D_is_within : He.DefD := ⟨("is_within", none), "is_within", "is_within", defArgs s_is_within, defBody s_is_within, defScope s_is_within, [], []⟩
def D_is_name : He.DefD := ⟨("is_name", none), "is_name", "is_name", defArgs s_is_name, defBody s_is_name, defScope s_is_name, [], []⟩
def D_is_sum : He.DefD := ⟨("is_sum", none), "is_sum", "is_sum", defArgs s_is_sum, defBody s_is_sum, defScope s_is_sum, [], []⟩
def D_is_row : He.DefD := ⟨("is_row", none), "is_row", "is_row", defArgs s_is_row, defBody s_is_row, defScope s_is_row, [], []⟩
def D_is_source : He.DefD := ⟨("is_source", none), "is_source", "is_source", defArgs s_is_source, defBody s_is_source, defScope s_is_source, [], []⟩
def D_look : He.DefD := ⟨("look", none), "look", "look", defArgs s_look, defBody s_look, defScope s_look, [], []⟩
def D_sets_of : He.DefD := ⟨("sets_of", none), "sets_of", "sets_of", defArgs s_sets_of, defBody s_sets_of, defScope s_sets_of, [], []⟩
def D_Cell_init : He.DefD := ⟨("Cell", some "__init__"), "__init__", "Cell.__init__", defArgs s_Cell_init, defBody s_Cell_init, defScope s_Cell_init, [], []⟩
def D_Notebook_init : He.DefD := ⟨("Notebook", some "__init__"), "__init__", "Notebook.__init__", defArgs s_Notebook_init, defBody s_Notebook_init, defScope s_Notebook_init, [], []⟩
def D_Notebook_look_cell : He.DefD := ⟨("Notebook", some "look_cell"), "look_cell", "Notebook.look_cell", defArgs s_Notebook_look_cell, defBody s_Notebook_look_cell, defScope s_Notebook_look_cell, [], []⟩
def D_Notebook_look_place : He.DefD := ⟨("Notebook", some "look_place"), "look_place", "Notebook.look_place", defArgs s_Notebook_look_place, defBody s_Notebook_look_place, defScope s_Notebook_look_place, [], []⟩
def D_Notebook_put : He.DefD := ⟨("Notebook", some "put"), "put", "Notebook.put", defArgs s_Notebook_put, defBody s_Notebook_put, defScope s_Notebook_put, [], []⟩
def D_Notebook_change : He.DefD := ⟨("Notebook", some "change"), "change", "Notebook.change", defArgs s_Notebook_change, defBody s_Notebook_change, defScope s_Notebook_change, [], []⟩
def D_Notebook_setter : He.DefD := ⟨("Notebook", some "setter"), "setter", "Notebook.setter", defArgs s_Notebook_setter, defBody s_Notebook_setter, defScope s_Notebook_setter, [], []⟩
def D_Notebook_holds : He.DefD := ⟨("Notebook", some "holds"), "holds", "Notebook.holds", defArgs s_Notebook_holds, defBody s_Notebook_holds, defScope s_Notebook_holds, [], []⟩
def D_Notebook_last_told : He.DefD := ⟨("Notebook", some "last_told"), "last_told", "Notebook.last_told", defArgs s_Notebook_last_told, defBody s_Notebook_last_told, defScope s_Notebook_last_told, [], []⟩
def D_Notebook_fresh : He.DefD := ⟨("Notebook", some "fresh"), "fresh", "Notebook.fresh", defArgs s_Notebook_fresh, defBody s_Notebook_fresh, defScope s_Notebook_fresh, [], []⟩
def D_Notebook_state : He.DefD := ⟨("Notebook", some "state"), "state", "Notebook.state", defArgs s_Notebook_state, defBody s_Notebook_state, defScope s_Notebook_state, [], []⟩
def D_Notebook_source : He.DefD := ⟨("Notebook", some "source"), "source", "Notebook.source", defArgs s_Notebook_source, defBody s_Notebook_source, defScope s_Notebook_source, [], []⟩
def D_Notebook_version : He.DefD := ⟨("Notebook", some "version"), "version", "Notebook.version", defArgs s_Notebook_version, defBody s_Notebook_version, defScope s_Notebook_version, [], []⟩
def D_law_cell : He.DefD := ⟨("_law_cell", none), "_law_cell", "_law_cell", defArgs s_law_cell, defBody s_law_cell, defScope s_law_cell, [], []⟩
def D_law_seed : He.DefD := ⟨("_law_seed", none), "_law_seed", "_law_seed", defArgs s_law_seed, defBody s_law_seed, defScope s_law_seed, [], []⟩
def D_law_pick : He.DefD := ⟨("_law_pick", none), "_law_pick", "_law_pick", defArgs s_law_pick, defBody s_law_pick, defScope s_law_pick, [], []⟩
def D_law_sum : He.DefD := ⟨("_law_sum", none), "_law_sum", "_law_sum", defArgs s_law_sum, defBody s_law_sum, defScope s_law_sum, [], []⟩
def D_law_source : He.DefD := ⟨("_law_source", none), "_law_source", "_law_source", defArgs s_law_source, defBody s_law_source, defScope s_law_source, [], []⟩
def D_law : He.DefD := ⟨("law", none), "law", "law", defArgs s_law, defBody s_law, defScope s_law, [], []⟩
def fnL : List He.DefD := [D_is_within, D_is_name, D_is_sum, D_is_row, D_is_source, D_look, D_sets_of, D_Cell_init, D_Notebook_init, D_Notebook_look_cell, D_Notebook_look_place, D_Notebook_put, D_Notebook_change, D_Notebook_setter, D_Notebook_holds, D_Notebook_last_told, D_Notebook_fresh, D_Notebook_state, D_Notebook_source, D_Notebook_version, D_law_cell, D_law_seed, D_law_pick, D_law_sum, D_law_source, D_law]
def faL : List He.Fa := [.glo "is_within", .glo "is_name", .glo "is_sum", .glo "is_row", .glo "is_source", .glo "look", .glo "sets_of", .glo "Cell", .mkr "Cell", .glo "Notebook", .mkr "Notebook", .meth "Notebook" "look_cell", .cls "Notebook", .meth "Notebook" "look_place", .meth "Notebook" "put", .meth "Notebook" "change", .meth "Notebook" "setter", .meth "Notebook" "holds", .meth "Notebook" "last_told", .meth "Notebook" "fresh", .meth "Notebook" "state", .meth "Notebook" "source", .meth "Notebook" "version", .glo "_law_cell", .glo "_law_seed", .glo "_law_pick", .glo "_law_sum", .glo "_law_source", .glo "law", .free "bool", .free "int", .free "isinstance", .free "len", .free "range", .free "str", .free "tuple", .noat "Notebook" "after", .noat "Notebook" "cells", .cls "Cell", .noat "Cell" "count", .noat "Cell" "lines", .noat "Cell" "record", .noat "Notebook" "row", .noat "Cell" "struck", .glo "BARRED", .int "MOST_CELLS" 30, .int "MOST_DEEP" 6, .int "MOST_ROWS" 8, .int "ROUND" 10000, .str "SMALL" "abcdefghijklmnopqrstuvwxyz", .glo "WORDS", .glo "BadNumber", .exc "BadNumber", .glo "BadSource", .exc "BadSource", .glo "Behind", .exc "Behind", .glo "Full", .exc "Full", .glo "NoCell", .exc "NoCell", .exm "Behind" "Behind" true, .exm "NoCell" "Behind" false, .exm "BadNumber" "Behind" false, .exm "BadSource" "Behind" false, .exm "Full" "Behind" false]
def exB (K : PySem.W.Frag) : Bool := (strsB K "BARRED" l_BARRED && (strsB K "WORDS" l_WORDS && true))
theorem ex_0 {K : PySem.W.Frag} (h : exB K = true) : (strsB K "BARRED" l_BARRED) = true := (He.ba h).1
theorem ex_1 {K : PySem.W.Frag} (h : exB K = true) : (strsB K "WORDS" l_WORDS) = true := (He.ba (He.ba h).2).1
theorem txt {w : World} {h : Heap} {K : PySem.W.Frag} {mg : Str → Option Value} (X : K.In h) (G : h.Ns mainGlobals mg) (c : He.SaysX faL fnL [] [] exB w h K) : Txt K mg where
  d_is_within := defP_of X G (c.t.d.fact 0 rfl) (c.t.d.def_ 0 (d := D_is_within) rfl) (fun _ _ _ _ _ _ us hl => match us, hl with | [_, _, _], _ => rfl)
  d_is_name := defP_of X G (c.t.d.fact 1 rfl) (c.t.d.def_ 1 (d := D_is_name) rfl) (fun _ _ _ _ _ _ us hl => match us, hl with | [_], _ => rfl)
  d_is_sum := defP_of X G (c.t.d.fact 2 rfl) (c.t.d.def_ 2 (d := D_is_sum) rfl) (fun _ _ _ _ _ _ us hl => match us, hl with | [_, _], _ => rfl)
  d_is_row := defP_of X G (c.t.d.fact 3 rfl) (c.t.d.def_ 3 (d := D_is_row) rfl) (fun _ _ _ _ _ _ us hl => match us, hl with | [_], _ => rfl)
  d_is_source := defP_of X G (c.t.d.fact 4 rfl) (c.t.d.def_ 4 (d := D_is_source) rfl) (fun _ _ _ _ _ _ us hl => match us, hl with | [_], _ => rfl)
  d_look := defP_of X G (c.t.d.fact 5 rfl) (c.t.d.def_ 5 (d := D_look) rfl) (fun _ _ _ _ _ _ us hl => match us, hl with | [_], _ => rfl)
  d_sets_of := defP_of X G (c.t.d.fact 6 rfl) (c.t.d.def_ 6 (d := D_sets_of) rfl) (fun _ _ _ _ _ _ us hl => match us, hl with | [_], _ => rfl)
  i_Cell := iniP_of X G (c.t.d.fact 7 rfl) (c.t.d.fact 8 rfl) (c.t.d.def_ 7 (d := D_Cell_init) rfl) (fun _ _ _ _ _ _ us hl => match us, hl with | [_, _], _ => rfl)
  i_Notebook := iniP_of X G (c.t.d.fact 9 rfl) (c.t.d.fact 10 rfl) (c.t.d.def_ 8 (d := D_Notebook_init) rfl) (fun _ _ _ _ _ _ us hl => match us, hl with | [_], _ => rfl)
  m_Notebook_look_cell := metP_of (c.t.d.fact 11 rfl) (c.t.d.fact 12 rfl) (c.t.d.def_ 9 (d := D_Notebook_look_cell) rfl) (fun _ _ _ _ _ _ us hl => match us, hl with | [_, _], _ => rfl)
  m_Notebook_look_place := metP_of (c.t.d.fact 13 rfl) (c.t.d.fact 12 rfl) (c.t.d.def_ 10 (d := D_Notebook_look_place) rfl) (fun _ _ _ _ _ _ us hl => match us, hl with | [_, _, _], _ => rfl)
  m_Notebook_put := metP_of (c.t.d.fact 14 rfl) (c.t.d.fact 12 rfl) (c.t.d.def_ 11 (d := D_Notebook_put) rfl) (fun _ _ _ _ _ _ us hl => match us, hl with | [_, _, _], _ => rfl)
  m_Notebook_change := metP_of (c.t.d.fact 15 rfl) (c.t.d.fact 12 rfl) (c.t.d.def_ 12 (d := D_Notebook_change) rfl) (fun _ _ _ _ _ _ us hl => match us, hl with | [_, _, _, _], _ => rfl)
  m_Notebook_setter := metP_of (c.t.d.fact 16 rfl) (c.t.d.fact 12 rfl) (c.t.d.def_ 13 (d := D_Notebook_setter) rfl) (fun _ _ _ _ _ _ us hl => match us, hl with | [_, _, _], _ => rfl)
  m_Notebook_holds := metP_of (c.t.d.fact 17 rfl) (c.t.d.fact 12 rfl) (c.t.d.def_ 14 (d := D_Notebook_holds) rfl) (fun _ _ _ _ _ _ us hl => match us, hl with | [_, _, _], _ => rfl)
  m_Notebook_last_told := metP_of (c.t.d.fact 18 rfl) (c.t.d.fact 12 rfl) (c.t.d.def_ 15 (d := D_Notebook_last_told) rfl) (fun _ _ _ _ _ _ us hl => match us, hl with | [_, _, _], _ => rfl)
  m_Notebook_fresh := metP_of (c.t.d.fact 19 rfl) (c.t.d.fact 12 rfl) (c.t.d.def_ 16 (d := D_Notebook_fresh) rfl) (fun _ _ _ _ _ _ us hl => match us, hl with | [_], _ => rfl)
  m_Notebook_state := metP_of (c.t.d.fact 20 rfl) (c.t.d.fact 12 rfl) (c.t.d.def_ 17 (d := D_Notebook_state) rfl) (fun _ _ _ _ _ _ us hl => match us, hl with | [_, _], _ => rfl)
  m_Notebook_source := metP_of (c.t.d.fact 21 rfl) (c.t.d.fact 12 rfl) (c.t.d.def_ 18 (d := D_Notebook_source) rfl) (fun _ _ _ _ _ _ us hl => match us, hl with | [_, _], _ => rfl)
  m_Notebook_version := metP_of (c.t.d.fact 22 rfl) (c.t.d.fact 12 rfl) (c.t.d.def_ 19 (d := D_Notebook_version) rfl) (fun _ _ _ _ _ _ us hl => match us, hl with | [_, _], _ => rfl)
  d_law_cell := defP_of X G (c.t.d.fact 23 rfl) (c.t.d.def_ 20 (d := D_law_cell) rfl) (fun _ _ _ _ _ _ us hl => match us, hl with | [_, _], _ => rfl)
  d_law_seed := defP_of X G (c.t.d.fact 24 rfl) (c.t.d.def_ 21 (d := D_law_seed) rfl) (fun _ _ _ _ _ _ us hl => match us, hl with | [_, _], _ => rfl)
  d_law_pick := defP_of X G (c.t.d.fact 25 rfl) (c.t.d.def_ 22 (d := D_law_pick) rfl) (fun _ _ _ _ _ _ us hl => match us, hl with | [_, _], _ => rfl)
  d_law_sum := defP_of X G (c.t.d.fact 26 rfl) (c.t.d.def_ 23 (d := D_law_sum) rfl) (fun _ _ _ _ _ _ us hl => match us, hl with | [_, _], _ => rfl)
  d_law_source := defP_of X G (c.t.d.fact 27 rfl) (c.t.d.def_ 24 (d := D_law_source) rfl) (fun _ _ _ _ _ _ us hl => match us, hl with | [_], _ => rfl)
  d_law := defP_of X G (c.t.d.fact 28 rfl) (c.t.d.def_ 25 (d := D_law) rfl) (fun _ _ _ _ _ _ us hl => match us, hl with | [_], _ => rfl)
  b_bool := He.free_ok X G (c.t.d.fact 29 rfl)
  b_int := He.free_ok X G (c.t.d.fact 30 rfl)
  b_isinstance := He.free_ok X G (c.t.d.fact 31 rfl)
  b_len := He.free_ok X G (c.t.d.fact 32 rfl)
  b_range := He.free_ok X G (c.t.d.fact 33 rfl)
  b_str := He.free_ok X G (c.t.d.fact 34 rfl)
  b_tuple := He.free_ok X G (c.t.d.fact 35 rfl)
  f_after := (fldP_cons (c.t.d.fact 12 rfl) (c.t.d.fact 36 rfl) fldP_nil)
  f_asked := fldP_nil
  f_cells := (fldP_cons (c.t.d.fact 12 rfl) (c.t.d.fact 37 rfl) fldP_nil)
  f_count := (fldP_cons (c.t.d.fact 38 rfl) (c.t.d.fact 39 rfl) fldP_nil)
  f_lines := (fldP_cons (c.t.d.fact 38 rfl) (c.t.d.fact 40 rfl) fldP_nil)
  f_record := (fldP_cons (c.t.d.fact 38 rfl) (c.t.d.fact 41 rfl) fldP_nil)
  f_row := (fldP_cons (c.t.d.fact 12 rfl) (c.t.d.fact 42 rfl) fldP_nil)
  f_sets := fldP_nil
  f_struck := (fldP_cons (c.t.d.fact 38 rfl) (c.t.d.fact 43 rfl) fldP_nil)
  k_BARRED := strsP_of X G (c.t.d.fact 44 rfl) (ex_0 c.more)
  k_MOST_CELLS := He.int_ok X G (c.t.d.fact 45 rfl)
  k_MOST_DEEP := He.int_ok X G (c.t.d.fact 46 rfl)
  k_MOST_ROWS := He.int_ok X G (c.t.d.fact 47 rfl)
  k_ROUND := He.int_ok X G (c.t.d.fact 48 rfl)
  k_SMALL := He.str_ok X G (c.t.d.fact 49 rfl)
  k_WORDS := strsP_of X G (c.t.d.fact 50 rfl) (ex_1 c.more)
  x_BadNumber := excP_of X G (c.t.d.fact 51 rfl) (c.t.d.fact 52 rfl)
  x_BadSource := excP_of X G (c.t.d.fact 53 rfl) (c.t.d.fact 54 rfl)
  x_Behind := excP_of X G (c.t.d.fact 55 rfl) (c.t.d.fact 56 rfl)
  x_Full := excP_of X G (c.t.d.fact 57 rfl) (c.t.d.fact 58 rfl)
  x_NoCell := excP_of X G (c.t.d.fact 59 rfl) (c.t.d.fact 60 rfl)
  ct_Behind := ctL_all (P := fun k b => PySem.W.exmOne K (.ref (He.ga K k)) (.ref (He.ga K "Behind")) = some b) (List.forall_mem_cons.mpr ⟨He.exm_ok (c.t.d.fact 61 rfl), (fun k hk => (by cases hk))⟩) (List.forall_mem_cons.mpr ⟨He.exm_ok (c.t.d.fact 62 rfl), (List.forall_mem_cons.mpr ⟨He.exm_ok (c.t.d.fact 63 rfl), (List.forall_mem_cons.mpr ⟨He.exm_ok (c.t.d.fact 64 rfl), (List.forall_mem_cons.mpr ⟨He.exm_ok (c.t.d.fact 65 rfl), (fun k hk => (by cases hk))⟩)⟩)⟩)⟩)
abbrev RowL : PySem.W.OpenRow := PySem.W.OpenLaw.row PySem.Challenge.rw_leancells_k14_hands
def nmL0 : List PySem.Str := ["_wall", "LeanError", "BadSource", "BadNumber", "NoCell", "Struck", "Behind", "Full", "SMALL", "ROUND", "MOST_ROWS", "MOST_DEEP", "WORDS", "BARRED", "is_within", "is_name", "is_sum", "is_row", "is_source", "look"]
def nmL1 : List PySem.Str := ["sets_of", "Failed", "reckoned", "worth", "done", "MOST_CELLS", "Record", "Cell", "Notebook", "_law_cell", "_law_seed", "_law_pick", "_law_sum", "_law_source"]
def nmL : List PySem.Str := nmL0 ++ nmL1
abbrev hkL : PySem.W.Hook := He.hookX 6 faL fnL [] [] exB
def obL (s : PySem.W.SharedT) : He.AlX := He.obsX 6 faL fnL [] [] exB (HandSHeadRun.getT s)
theorem ob_eq (s : PySem.W.SharedT) : obL s = hkL.obs s.abs := He.obsX_eq (HandSHeadRun.getT_eq s)
theorem run (w : World) : HandSHeadRun.RunEq RowL (PySem.W.view RowL.prog [39]) hkL obL 6000 nmL w := by
  intro os
  kernel_rfl
theorem lawBind {K : PySem.W.Frag} {f : Addr} {fd : FuncData} (F : Fun K "law" "law" s_law f fd) (s : Shared) (u : Value) : BindsTo s fd ⟨[u], []⟩ [("_law_script", u)] := by
  obtain ⟨oc, od, kV, doc, pm, an, cdv, ct, osl, rfl, lk, hcd⟩ := F.ex
  exact .of_eq rfl
theorem lawAt {w : World} {h : Heap} {K : PySem.W.Frag} {mg : Str → Option Value} {f : Addr} (X : K.In h) (G0 : h.Ns mainGlobals mg) (hfa : mg ("law" : Str) = some (.ref f)) (c : He.SaysX faL fnL [] [] exB w h K) :
    LamX.LawAtS PySem.Challenge.rw_leancells_k14_hands w K (L2.CX (PySem.Challenge.rw_leancells_k14_hands).prog w) 231 63 "_law_script" mg f h := by
  have T : Txt K mg := txt X G0 c
  have e := hfa.symm.trans T.d_law.g
  cases e
  refine ⟨fdOf K (fa_ K "law"), [], spM (G K) (F 430).law, fun p hp => (by cases hp), fun p hp => (by cases hp), fun p hp => (by cases hp), ?_, ?_, ?_⟩
  · intro s u
    have := T.d_law.b s [u]
    exact lawBind T.d_law.h s u
  · intro H a ns hl hb hT hS
    exact sp_start (G := G K) (fun p hp => by cases hp) hS (law14 ns hl hb)
  · intro base hK hG hB
    exact fn_ok (all_ok T 430).law
end Z
open PySem PySem.W PySem.Calls PyProof.Rows
theorem PySem.Challenge.cw_leancells_k14_hands_holds : PySem.Challenge.rw_leancells_k14_hands.Holds := by
  w_on; o_law
  refine HandSHeadRun.head_any (r := OpenLaw.row PySem.Challenge.rw_leancells_k14_hands) (q := view (OpenLaw.row PySem.Challenge.rw_leancells_k14_hands).prog [39]) (H := Z.hkL) (ob := Z.obL) (M := 6000) (loose := Z.nmL) (d := HandSHeadRun.topDef (OpenLaw.row PySem.Challenge.rw_leancells_k14_hands).prog 39) (kwd := []) Z.ob_eq
    (by kernel_rfl) (fun s => by kernel_rfl) Z.run (by kernel_rfl) (by kernel_rfl) (by kernel_rfl) (by rfl) (by first | assumption | decide +kernel) (by decide +kernel) ⟨rfl, rfl, rfl, rfl, rfl, by decide +kernel⟩ ?hw ?hc
  case hw => w_witness2
  case hc =>
    refine LamX.walk_ofTsE (l := PySem.Challenge.rw_leancells_k14_hands) (n := 63) (k := 231) (x := "_law_script") (CX := fun w => L2.CX (PySem.Challenge.rw_leancells_k14_hands).prog w) rfl (by decide) (by kernel_rfl) ⟨rfl, by decide, by decide⟩ ?F (fun _ _ _ _ _ z => Z.cx_no z)
    intro w mg fa h Y G0 hmg0
    obtain ⟨K, KX, c⟩ := Y
    have hmg : mg ("law" : PySem.Str) = some (.ref fa) := by
      have e : (HandSHeadRun.topDef (OpenLaw.row PySem.Challenge.rw_leancells_k14_hands).prog 39).name = ("law" : PySem.Str) := by kernel_rfl
      rw [← e]
      exact hmg0
    exact ⟨K, KX, Z.lawAt KX G0 hmg c⟩
