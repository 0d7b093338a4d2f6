import PyProof.Rows.All
import Wide.All
import OpenK.AllK
import Wide.FinOn
import HandS.ForMost
import HandS.ForExc
import HandS.CallSlots
import HandS.CallLocal
import HandS.FStr
import HandS.Flow
import HandS.Style
import HandS.TupAny
import KE.DataEq
import HandS.IsInst
import HandS.Codes
import HandS.Star
import HandS.Strs
import HandS.SetFor
import HandS.Zip
import HandS.Walk
import KE.GoesEnum
import KE.KxIndex
import PyProof.Rows.StrJoinRep
import HandS.HeadHook1
import HandS.HeadHook2
import HandS.HeadHook3
import HandS.HeadHook4
import HandS.HeadEnd
import HandS.Head0
import HandS.Head1
import HandS.Head2
import PySem.Challenge.RW_lostcart_k29_lines_scanned_word_by_word
set_option Elab.async false
set_option linter.all false
set_option maxRecDepth 100000
set_option maxHeartbeats 4000000
namespace Mini
open PySem L2
/-- values without addresses; lst, dct: a list, a dict that nobody changes any more; ref n: the n-th object of the store; glo k: the k-th def or class of the module -/
inductive PV where
  | non | bl (b : Bool) | int (i : Int) | str (x : List Nat) | tup (xs : List PV) | lst (xs : List PV) | dct (ks vs : List PV) | ref (n : Nat) | glo (k : Nat) | ty (n : String)
  deriving Inhabited
inductive Ob where
  | lst (xs : List PV) | rol (xs : List PV) | ins (c : Nat) (fs : List (String × PV))
abbrev Sto := List Ob
abbrev Env := List (Option PV)
inductive Out (α : Type) where
  | ok (a : α) | ex (c : Nat) (fs : List (String × PV))
abbrev Res (α : Type) := Option (Out α × Sto)
@[simp] def Res.bind {α β : Type} (r : Res α) (k : α → Sto → Res β) : Res β :=
  match r with
  | none => none
  | some (.ok a, m) => k a m
  | some (.ex c fs, m) => some (.ex c fs, m)
def Res.ok {α : Type} (a : α) (m : Sto) : Res α := some (.ok a, m)
/-- the written part, where the defs and classes stand -/
structure Par where
  K : PySem.W.Frag
  FA : Nat → Addr
def mkS (x : List Nat) : Str := ⟨x.toArray⟩
theorem mkS_inj {x y : List Nat} (h : mkS x = mkS y) : x = y := by
  unfold mkS at h
  injection h with h
  exact congrArg Array.toList h |>.trans rfl
theorem mkS_append (x y : List Nat) : mkS x ++ mkS y = mkS (x ++ y) := by
  show Str.append _ _ = _
  unfold Str.append mkS
  simp
theorem mkS_length (x : List Nat) : (mkS x).length = x.length := by
  unfold mkS Str.length
  simp
theorem mkS_cps (x : List Nat) : (mkS x).cps.toList = x := by
  unfold mkS
  simp
theorem mkS_of (x : Str) : mkS x.cps.toList = x := by
  obtain ⟨x⟩ := x
  unfold mkS
  simp
/-- a dict's key -/
def keyP : Key → PV
  | .inl i => .int i
  | .inr x => .str x.cps.toList
/-- where the store's objects stand; hd: lists that are being made, which nobody sees -/
structure Ad where
  ix : List Addr
  hd : List Addr
def Ad.has (io : Ad) (a : Addr) : Prop := a ∈ io.ix ∨ a ∈ io.hd
def Ad.add (io : Ad) (a : Addr) : Ad := { io with ix := io.ix ++ [a] }
def Ad.hide (io : Ad) (a : Addr) : Ad := { io with hd := a :: io.hd }
section
variable (p : Par) (io : Ad) (H : Hp)
mutual
def RV : PV → V → Prop
  | .non, v => v = .non
  | .bl b, v => v = .bl b
  | .int i, v => v = .int i
  | .str x, v => v = .str (mkS x)
  | .tup xs, v => ∃ a vs, v = .ref a ∧ SqT p.K H a vs ∧ RVs xs vs
  | .lst xs, v => ∃ a vs, v = .ref a ∧ H a = some (.lst vs) ∧ ¬ io.has a ∧ RVs xs vs
  | .dct ks xs, v => ∃ a kvs, v = .ref a ∧ H a = some (.dK kvs) ∧ ¬ io.has a ∧ ks = kvs.map (fun q => keyP q.1) ∧ RVs xs (kvs.map (·.2))
  | .ref n, v => ∃ a, v = .ref a ∧ io.ix[n]? = some a
  | .glo k, v => v = .ref (p.FA k)
  | .ty n, v => v = .ty n
def RVs : List PV → List V → Prop
  | [], vs => vs = []
  | x :: xs, vs => ∃ v r, vs = v :: r ∧ RV x v ∧ RVs xs r
end
def RFs : List (String × PV) → List (Str × V) → Prop
  | [], vs => vs = []
  | (k, x) :: xs, vs => ∃ v r, vs = (Str.ofString k, v) :: r ∧ RV p io H x v ∧ RFs xs r
/-- a list that is read alone -/
def SqRo (a : Addr) (vs : List V) : Prop := (∃ o, H a = some (.frz o (.lst vs))) ∨
    ∃ (o : Obj) (its : Array Value) (n : Nat), p.K.lookup a = some o ∧ o.cls = .type "list" ∧ o.dict = none ∧ o.data = .seq its n ∧ its.size ≤ sizeLine ∧ Vals vs its.toList
theorem SqRo.sq {p : Par} {H : Hp} {a : Addr} {vs : List V} (h : SqRo p H a vs) : SqL p.K H a vs := by
  rcases h with ⟨o, h⟩ | h
  · exact .inl (.inr ⟨o, h⟩)
  · exact .inr h
def RO : Ob → Addr → Prop
  | .lst xs, a => ∃ vs, H a = some (.lst vs) ∧ RVs p io H xs vs
  | .rol xs, a => H a ≠ none ∧ (∀ zs, H a ≠ some (.tup zs)) ∧ ∃ vs, SqRo p H a vs ∧ RVs p io H xs vs
  | .ins c fs, a => ∃ dx vfs, H a = some (.ins (p.FA c) dx vfs) ∧ RFs p io H fs vfs
/-- the store -/
structure RM (m : Sto) : Prop where
  len : io.ix.length = m.length
  nd : io.ix.Nodup
  ob : ∀ (n : Nat) (o : Ob) (a : Addr), m[n]? = some o → io.ix[n]? = some a → RO p io H o a
  sep : ∀ a ∈ io.hd, a ∉ io.ix ∧ H a ≠ none ∧ ∀ zs, H a ≠ some (.tup zs)
/-- the slots -/
structure RS (r : Env) (σ : St) : Prop where
  len : r.length = σ.length
  at_ : ∀ (i : Nat) x, r[i]? = some (some x) → ∃ v, σ[i]? = some (some v) ∧ RV p io H x v
end
/-- the heap goes on: what is not the store's stays, new objects may come -/
structure Adv (io : Ad) (H : Hp) (io' : Ad) (H' : Hp) : Prop where
  more : ∃ z, io'.ix = io.ix ++ z ∧ ∀ a ∈ z, H a = none
  hide : ∃ y, io'.hd = y ++ io.hd ∧ ∀ a ∈ y, H a = none
  tups : ∀ a xs, H a = some (.tup xs) → H' a = some (.tup xs)
  frzs : ∀ a o u, H a = some (.frz o u) → H' a = some (.frz o u)
  stay : ∀ a o, H a = some o → a ∉ io.ix → H' a = some o
  dom : ∀ a, H' a = none → H a = none
theorem Adv.refl (io : Ad) (H : Hp) : Adv io H io H := ⟨⟨[], by simp, by simp⟩, ⟨[], by simp, by simp⟩, fun _ _ h => h, fun _ _ _ h => h, fun _ _ h _ => h, fun _ h => h⟩
theorem Adv.trans {io io1 io2 : Ad} {H H1 H2 : Hp} (a : Adv io H io1 H1) (b : Adv io1 H1 io2 H2) : Adv io H io2 H2 := by
  obtain ⟨z, e1, f1⟩ := a.more
  obtain ⟨y, e2, f2⟩ := b.more
  obtain ⟨z', e1', f1'⟩ := a.hide
  obtain ⟨y', e2', f2'⟩ := b.hide
  refine ⟨⟨z ++ y, by rw [e2, e1, List.append_assoc], fun c hc => ?_⟩, ⟨y' ++ z', by rw [e2', e1', List.append_assoc], fun c hc => (List.mem_append.mp hc).elim (fun q => a.dom _ (f2' c q)) (f1' c)⟩, fun c xs h => b.tups _ _ (a.tups _ _ h), fun c o u h => b.frzs _ _ _ (a.frzs _ _ _ h), fun c o h n => ?_, fun c h => a.dom _ (b.dom _ h)⟩
  · rcases List.mem_append.mp hc with h | h
    · exact f1 c h
    · exact a.dom _ (f2 c h)
  · refine b.stay c o (a.stay c o h n) ?_
    rw [e1]
    intro hc
    rcases List.mem_append.mp hc with h' | h'
    · exact n h'
    · rw [f1 c h'] at h; cases h
theorem Adv.get {io io' : Ad} {H H' : Hp} (a : Adv io H io' H') {n : Nat} {b : Addr} (h : io.ix[n]? = some b) : io'.ix[n]? = some b := by
  obtain ⟨z, e, _⟩ := a.more
  rw [e, List.getElem?_append_left (List.getElem?_eq_some_iff.mp h).1, h]
theorem Adv.out {io io' : Ad} {H H' : Hp} (a : Adv io H io' H') {b : Addr} {o : HO} (h : H b = some o) (n : ¬ io.has b) : ¬ io'.has b := by
  obtain ⟨z, e, f⟩ := a.more
  intro hc
  rcases hc with hc | hc
  · rw [e] at hc
    rcases List.mem_append.mp hc with h' | h'
    · exact n (.inl h')
    · rw [f b h'] at h; cases h
  · obtain ⟨y, e', f'⟩ := a.hide
    rw [e'] at hc
    rcases List.mem_append.mp hc with h' | h'
    · rw [f' b h'] at h; cases h
    · exact n (.inr h')
theorem Adv.sqT {p : Par} {io io' : Ad} {H H' : Hp} (a : Adv io H io' H') {b : Addr} {vs : List V} (h : SqT p.K H b vs) : SqT p.K H' b vs := by
  rcases h with (h | ⟨o, h⟩) | h
  · exact .inl (.inl (a.tups _ _ h))
  · exact .inl (.inr ⟨o, a.frzs _ _ _ h⟩)
  · exact .inr h
/-- less is asked: hidden lists may change -/
structure Go (io : Ad) (H : Hp) (io' : Ad) (H' : Hp) : Prop where
  more : ∃ z, io'.ix = io.ix ++ z ∧ ∀ a ∈ z, H a = none
  hide : ∃ y, io'.hd = y ++ io.hd ∧ ∀ a ∈ y, H a = none
  tups : ∀ a xs, H a = some (.tup xs) → H' a = some (.tup xs)
  frzs : ∀ a o u, H a = some (.frz o u) → H' a = some (.frz o u)
  stay : ∀ a o, H a = some o → ¬ io.has a → H' a = some o
theorem Adv.go {io io' : Ad} {H H' : Hp} (a : Adv io H io' H') : Go io H io' H' := ⟨a.more, a.hide, a.tups, a.frzs, fun b o h n => a.stay b o h fun z => n (.inl z)⟩
theorem Go.get {io io' : Ad} {H H' : Hp} (a : Go io H io' H') {n : Nat} {b : Addr} (h : io.ix[n]? = some b) : io'.ix[n]? = some b := by
  obtain ⟨z, e, _⟩ := a.more
  rw [e, List.getElem?_append_left (List.getElem?_eq_some_iff.mp h).1, h]
theorem Go.out {io io' : Ad} {H H' : Hp} (a : Go io H io' H') {b : Addr} {o : HO} (h : H b = some o) (n : ¬ io.has b) : ¬ io'.has b := by
  obtain ⟨z, e, f⟩ := a.more
  intro hc
  rcases hc with hc | hc
  · rw [e] at hc
    rcases List.mem_append.mp hc with h' | h'
    · exact n (.inl h')
    · rw [f b h'] at h; cases h
  · obtain ⟨y, e', f'⟩ := a.hide
    rw [e'] at hc
    rcases List.mem_append.mp hc with h' | h'
    · rw [f' b h'] at h; cases h
    · exact n (.inr h')
theorem Go.sqT {p : Par} {io io' : Ad} {H H' : Hp} (a : Go io H io' H') {b : Addr} {vs : List V} (h : SqT p.K H b vs) : SqT p.K H' b vs := by
  rcases h with (h | ⟨o, h⟩) | h
  · exact .inl (.inl (a.tups _ _ h))
  · exact .inl (.inr ⟨o, a.frzs _ _ _ h⟩)
  · exact .inr h
section
variable {p : Par} {io io' : Ad} {H H' : Hp}
mutual
theorem RV.go (a : Go io H io' H') : ∀ {x : PV} {v : V}, RV p io H x v → RV p io' H' x v
  | .non, _, h => by simpa [RV] using h
  | .bl b, _, h => by simpa [RV] using h
  | .int i, _, h => by simpa [RV] using h
  | .str x, _, h => by simpa [RV] using h
  | .tup xs, _, h => by
    simp only [RV] at h ⊢
    obtain ⟨b, vs, e, s, r⟩ := h
    exact ⟨b, vs, e, a.sqT s, RVs.go a r⟩
  | .lst xs, _, h => by
    simp only [RV] at h ⊢
    obtain ⟨b, vs, e, s, n, r⟩ := h
    exact ⟨b, vs, e, a.stay _ _ s n, a.out s n, RVs.go a r⟩
  | .dct ks xs, _, h => by
    simp only [RV] at h ⊢
    obtain ⟨b, vs, e, s, n, k, r⟩ := h
    exact ⟨b, vs, e, a.stay _ _ s n, a.out s n, k, RVs.go a r⟩
  | .ref n, _, h => by
    simp only [RV] at h ⊢
    obtain ⟨b, e, s⟩ := h
    exact ⟨b, e, a.get s⟩
  | .glo k, _, h => by simpa [RV] using h
  | .ty n, _, h => by simpa [RV] using h
theorem RVs.go (a : Go io H io' H') : ∀ {xs : List PV} {vs : List V}, RVs p io H xs vs → RVs p io' H' xs vs
  | [], _, h => by simpa [RVs] using h
  | x :: xs, _, h => by
    simp only [RVs] at h ⊢
    obtain ⟨v, r, e, h1, h2⟩ := h
    exact ⟨v, r, e, RV.go a h1, RVs.go a h2⟩
end
theorem RV.mono (a : Adv io H io' H') {x : PV} {v : V} (h : RV p io H x v) : RV p io' H' x v := h.go a.go
theorem RVs.mono (a : Adv io H io' H') {xs : List PV} {vs : List V} (h : RVs p io H xs vs) : RVs p io' H' xs vs := h.go a.go
theorem RFs.go (a : Go io H io' H') : ∀ {xs : List (String × PV)} {vs : List (Str × V)}, RFs p io H xs vs → RFs p io' H' xs vs
  | [], _, h => by simpa [RFs] using h
  | (k, x) :: xs, _, h => by
    simp only [RFs] at h ⊢
    obtain ⟨v, r, e, h1, h2⟩ := h
    exact ⟨v, r, e, h1.go a, RFs.go a h2⟩
theorem RFs.mono (a : Adv io H io' H') : ∀ {xs : List (String × PV)} {vs : List (Str × V)}, RFs p io H xs vs → RFs p io' H' xs vs
  | [], _, h => by simpa [RFs] using h
  | (k, x) :: xs, _, h => by
    simp only [RFs] at h ⊢
    obtain ⟨v, r, e, h1, h2⟩ := h
    exact ⟨v, r, e, h1.mono a, RFs.mono a h2⟩
theorem RS.mono (a : Adv io H io' H') {r : Env} {σ : St} (h : RS p io H r σ) : RS p io' H' r σ := ⟨h.len, fun i x e => by
  obtain ⟨v, e1, q⟩ := h.at_ i x e
  exact ⟨v, e1, q.mono a⟩⟩
theorem RVs.length : ∀ {xs : List PV} {vs : List V}, RVs p io H xs vs → xs.length = vs.length
  | [], _, h => by simp only [RVs] at h; simp [h]
  | x :: xs, _, h => by
    simp only [RVs] at h
    obtain ⟨v, r, rfl, _, h2⟩ := h
    simp [RVs.length h2]
theorem RVs.get : ∀ {xs : List PV} {vs : List V} {i : Nat} {x : PV}, RVs p io H xs vs → xs[i]? = some x → ∃ v, vs[i]? = some v ∧ RV p io H x v
  | [], _, i, x, h, e => by simp at e
  | y :: xs, _, 0, x, h, e => by
    simp only [RVs] at h
    obtain ⟨v, r, rfl, h1, _⟩ := h
    simp at e
    subst e
    exact ⟨v, rfl, h1⟩
  | y :: xs, _, i + 1, x, h, e => by
    simp only [RVs] at h
    obtain ⟨v, r, rfl, _, h2⟩ := h
    exact RVs.get (i := i) h2 (by simpa using e)
theorem RVs.append : ∀ {xs ys : List PV} {vs ws : List V}, RVs p io H xs vs → RVs p io H ys ws → RVs p io H (xs ++ ys) (vs ++ ws)
  | [], _, _, _, h, h' => by simp only [RVs] at h; subst h; exact h'
  | x :: xs, _, _, _, h, h' => by
    simp only [RVs] at h
    obtain ⟨v, r, rfl, h1, h2⟩ := h
    simp only [List.cons_append, RVs]
    exact ⟨v, _, rfl, h1, RVs.append h2 h'⟩
theorem RVs.take : ∀ {xs : List PV} {vs : List V} (n : Nat), RVs p io H xs vs → RVs p io H (xs.take n) (vs.take n)
  | _, _, 0, _ => by simp [RVs]
  | [], _, n + 1, h => by simp only [RVs] at h; subst h; simp [RVs]
  | x :: xs, _, n + 1, h => by
    simp only [RVs] at h
    obtain ⟨v, r, rfl, h1, h2⟩ := h
    simp only [List.take_succ_cons, RVs]
    exact ⟨v, _, rfl, h1, RVs.take n h2⟩
theorem RVs.drop : ∀ {xs : List PV} {vs : List V} (n : Nat), RVs p io H xs vs → RVs p io H (xs.drop n) (vs.drop n)
  | _, _, 0, h => by simpa using h
  | [], _, n + 1, h => by simp only [RVs] at h; subst h; simp [RVs]
  | x :: xs, _, n + 1, h => by
    simp only [RVs] at h
    obtain ⟨v, r, rfl, h1, h2⟩ := h
    simpa using RVs.drop n h2
theorem RVs.set : ∀ {xs : List PV} {vs : List V} {x : PV} {v : V} (n : Nat), RVs p io H xs vs → RV p io H x v → RVs p io H (xs.set n x) (vs.set n v)
  | [], _, _, _, n, h, _ => by simp only [RVs] at h; subst h; simp [RVs]
  | y :: xs, _, _, _, 0, h, q => by
    simp only [RVs] at h
    obtain ⟨v, r, rfl, h1, h2⟩ := h
    simp only [List.set_cons_zero, RVs]
    exact ⟨_, _, rfl, q, h2⟩
  | y :: xs, _, _, _, n + 1, h, q => by
    simp only [RVs] at h
    obtain ⟨v, r, rfl, h1, h2⟩ := h
    simp only [List.set_cons_succ, RVs]
    exact ⟨_, _, rfl, h1, RVs.set n h2 q⟩
end
/-! ### the judgements' readings -/
section
variable (p : Par)
def RX (io : Ad) (H : Hp) (fs : List (String × PV)) (d : Option Addr) : Prop := match fs with
  | [] => True
  | fs => ∃ a vfs, d = some a ∧ H a = some (.xd vfs) ∧ RFs p io H fs vfs
def PostX (W : WX) (io : Ad) (H : Hp) (σ : St) (c : Nat) (fs : List (String × PV)) (m : Sto) : Prop :=
  ∀ io' H' d, Adv io H io' H' → RM p io' H' m → RX p io' H' fs d → W (.ref (p.FA c)) d σ H'
/-- what holds behind -/
def PostG {α : Type} (W : WX) (io : Ad) (H : Hp) (σ : St) (r : Res α) (P : α → Ad → Hp → Sto → Prop) : Prop := match r with
  | none => False
  | some (.ok x, m) => ∀ io' H', Adv io H io' H' → RM p io' H' m → P x io' H' m
  | some (.ex c fs, m) => PostX p W io H σ c fs m
/-- an expression -/
def tE (W : WX) (f : Env → Sto → Res PV) : TE := fun σ H Q => ∃ io r m, RS p io H r σ ∧ RM p io H m ∧
  PostG p W io H σ (f r m) fun x io' H' _ => ∀ v, RV p io' H' x v → Q v H'
/-- a test -/
def tT (W : WX) (f : Env → Sto → Res Bool) : TT := fun σ H Q => ∃ io r m, RS p io H r σ ∧ RM p io H m ∧
  PostG p W io H σ (f r m) fun x _ H' _ => Q x H'
/-- arguments -/
def tAr (W : WX) (f : Env → Sto → Res (List PV)) : TA := fun σ H Q => ∃ io r m, RS p io H r σ ∧ RM p io H m ∧
  PostG p W io H σ (f r m) fun x io' H' _ => ∀ v, RVs p io' H' x v → Q v H'
/-- a new list that nobody else has -/
def tL (W : WX) (f : Env → Sto → Res (List PV)) : TE := fun σ H Q => ∃ io r m, RS p io H r σ ∧ RM p io H m ∧
  PostG p W io H σ (f r m) fun x io' H' m' => ∀ D vs, H' D = some (.lst vs) → ¬ io'.has D → RVs p io' H' x vs → Adv io H (io'.add D) H' → RM p (io'.add D) H' (m' ++ [.lst x]) → Q (.ref D) H'
inductive Flo where
  | next (r : Env) | brk (r : Env) | cont (r : Env) | ret (x : PV)
/-- a statement -/
def PostS (W : WX) (io : Ad) (H : Hp) (r : Res Flo) (D : Ends) : Prop := match r with
  | none => False
  | some (.ok (.next r'), m) => ∀ io' H' σ', Adv io H io' H' → RM p io' H' m → RS p io' H' r' σ' → D.nx σ' H'
  | some (.ok (.brk r'), m) => ∀ io' H' σ', Adv io H io' H' → RM p io' H' m → RS p io' H' r' σ' → D.bk σ' H'
  | some (.ok (.cont r'), m) => ∀ io' H' σ', Adv io H io' H' → RM p io' H' m → RS p io' H' r' σ' → D.ct σ' H'
  | some (.ok (.ret x), m) => ∀ io' H' v, Adv io H io' H' → RM p io' H' m → RV p io' H' x v → D.rt v H'
  | some (.ex c fs, m) => ∀ io' H' d σ', Adv io H io' H' → RM p io' H' m → RX p io' H' fs d → W (.ref (p.FA c)) d σ' H'
def tS (W : WX) (f : Env → Sto → Res Flo) : TS := fun D σ H => ∃ io r m, RS p io H r σ ∧ RM p io H m ∧ PostS p W io H (f r m) D
end
section
variable {p : Par} {W : WX} {io io' : Ad} {H H' : Hp} {σ : St}
theorem PostX.adv {c fs m} (a : Adv io H io' H') (h : PostX p W io H σ c fs m) : PostX p W io' H' σ c fs m :=
  fun io2 H2 d b rm rx => h io2 H2 d (a.trans b) rm rx
theorem PostG.adv {α : Type} {r : Res α} {P} (a : Adv io H io' H') (h : PostG p W io H σ r P) : PostG p W io' H' σ r P := by
  unfold PostG at h ⊢
  split
  · exact h
  · exact fun io2 H2 b rm => h io2 H2 (a.trans b) rm
  · exact PostX.adv a h
theorem PostG.mono {α : Type} {r : Res α} {P P' : α → Ad → Hp → Sto → Prop} (h : PostG p W io H σ r P)
    (k : ∀ x io' H' m, Adv io H io' H' → RM p io' H' m → P x io' H' m → P' x io' H' m) : PostG p W io H σ r P' := by
  unfold PostG at h ⊢
  split
  · exact h
  · exact fun io2 H2 b rm => k _ _ _ _ b rm (h io2 H2 b rm)
  · exact h
theorem PostG.bind {α β : Type} {r : Res α} {k : α → Sto → Res β} {P : β → Ad → Hp → Sto → Prop} (h : PostG p W io H σ (r.bind k) P) :
    PostG p W io H σ r fun x io1 H1 m1 => PostG p W io1 H1 σ (k x m1) P := by
  match r, h with
  | none, h => exact h
  | some (.ok x, m), h =>
    intro io1 H1 a rm
    exact PostG.adv a h
  | some (.ex c fs, m), h => exact h
theorem PostG.of_ok {α : Type} {x : α} {m : Sto} {P} (rm : RM p io H m) (h : PostG p W io H σ (some (.ok x, m)) P) : P x io H m := h io H (.refl _ _) rm
theorem PostS.adv {r : Res Flo} {D : Ends} (a : Adv io H io' H') (h : PostS p W io H r D) : PostS p W io' H' r D := by
  unfold PostS at h ⊢
  split
  · exact h
  · exact fun io2 H2 σ b rm => h io2 H2 σ (a.trans b) rm
  · exact fun io2 H2 σ b rm => h io2 H2 σ (a.trans b) rm
  · exact fun io2 H2 σ b rm => h io2 H2 σ (a.trans b) rm
  · exact fun io2 H2 σ b rm => h io2 H2 σ (a.trans b) rm
  · exact fun io2 H2 d σ b rm => h io2 H2 d σ (a.trans b) rm
theorem PostS.bind {α : Type} {r : Res α} {k : α → Sto → Res Flo} {D : Ends} (h : PostS p W io H (r.bind k) D) :
    PostG p W io H σ r fun x io1 H1 m1 => PostS p W io1 H1 (k x m1) D := by
  match r, h with
  | none, h => exact h
  | some (.ok x, m), h =>
    intro io1 H1 a rm
    exact PostS.adv a h
  | some (.ex c fs, m), h => exact fun io' H' d a rm rx => h io' H' d σ a rm rx
end
end Mini
namespace L2
open PySem
theorem PE.weak {X : Cx} {e : Expr} {t t' : TE} (h : PE X e t) (w : ∀ σ H Q, t' σ H Q → t σ H Q) : PE X e t' := ⟨fun pins s σ H Q I q => h.run pins s σ H Q I (w _ _ _ q)⟩
theorem PT.weak {X : Cx} {e : Expr} {t t' : TT} (h : PT X e t) (w : ∀ σ H Q, t' σ H Q → t σ H Q) : PT X e t' := ⟨fun pins s σ H Q I q => h.run pins s σ H Q I (w _ _ _ q)⟩
theorem PW.weak {X : Cx} {e : Expr} {t t' : TT} (h : PW X e t) (w : ∀ σ H Q, t' σ H Q → t σ H Q) : PW X e t' := ⟨fun wh pins s σ H Q I q => h.run wh pins s σ H Q I (w _ _ _ q)⟩
theorem PA.weak {X : Cx} {e : List Expr} {t t' : TA} (h : PA X e t) (w : ∀ σ H Q, t' σ H Q → t σ H Q) : PA X e t' := ⟨fun pos pins s σ H Q I q => h.run pos pins s σ H Q I (w _ _ _ q)⟩
theorem PS.weak {X : Cx} {e : Stmt} {t t' : TS} (h : PS X e t) (w : ∀ D σ H, t' D σ H → t D σ H) : PS X e t' := ⟨fun pins s σ H Q I q => h.run pins s σ H Q I (w _ _ _ q)⟩
theorem PSs.weak {X : Cx} {e : List Stmt} {t t' : TS} (h : PSs X e t) (w : ∀ D σ H, t' D σ H → t D σ H) : PSs X e t' := ⟨fun pins s σ H Q I q => h.run pins s σ H Q I (w _ _ _ q)⟩
end L2
namespace Mini
open PySem L2
section
variable {p : Par} {io io' : Ad} {H H' : Hp} {m : Sto}
/-! ### what stands where -/
theorem RM.at {n : Nat} {o : Ob} (h : RM p io H m) (e : m[n]? = some o) : ∃ a, io.ix[n]? = some a ∧ RO p io H o a := by
  have hn : n < m.length := (List.getElem?_eq_some_iff.mp e).1
  have : n < io.ix.length := by rw [h.len]; exact hn
  exact ⟨io.ix[n], by simp [this], h.ob n o _ e (by simp [this])⟩
theorem RO.mono' {o : Ob} {a : Addr} (v : Adv io H io' H') (h : RO p io H o a) (e : H' a = H a) : RO p io' H' o a := by
  cases o with
  | lst xs =>
    obtain ⟨vs, h1, h2⟩ := h
    exact ⟨vs, by rw [e]; exact h1, h2.mono v⟩
  | rol xs =>
    obtain ⟨h0, h0', vs, h1, h2⟩ := h
    refine ⟨by rw [e]; exact h0, by rw [e]; exact h0', vs, ?_, h2.mono v⟩
    rcases h1 with ⟨ob, h1⟩ | h1
    · exact .inl ⟨ob, v.frzs _ _ _ h1⟩
    · exact .inr h1
  | ins c fs =>
    obtain ⟨dx, vfs, h1, h2⟩ := h
    exact ⟨dx, vfs, by rw [e]; exact h1, h2.mono v⟩
/-- the store stands as it stood: nothing of it was touched -/
theorem RM.mono (h : RM p io H m) (v : Adv io H io H') (e : ∀ a, io.has a → H' a = H a) : RM p io H' m :=
  ⟨h.len, h.nd, fun n o a h1 h2 => RO.mono' v (h.ob n o a h1 h2) (e a (.inl (List.mem_of_getElem? h2))), fun a ha => by
    obtain ⟨x, y⟩ := h.sep a ha
    rw [e a (.inr ha)]
    exact ⟨x, y⟩⟩
theorem RO.live {o : Ob} {a : Addr} (h : RO p io H o a) : H a ≠ none := by
  cases o with
  | lst xs => obtain ⟨vs, h1, _⟩ := h; rw [h1]; exact fun z => nomatch z
  | rol xs => exact h.1
  | ins c fs => obtain ⟨dx, vfs, h1, _⟩ := h; rw [h1]; exact fun z => nomatch z
theorem RO.notup {o : Ob} {a : Addr} (h : RO p io H o a) (zs : List V) : H a ≠ some (.tup zs) := by
  cases o with
  | lst xs => obtain ⟨vs, h1, _⟩ := h; rw [h1]; exact fun z => nomatch z
  | rol xs => exact h.2.1 zs
  | ins c fs => obtain ⟨dx, vfs, h1, _⟩ := h; rw [h1]; exact fun z => nomatch z
theorem RM.live (h : RM p io H m) {a : Addr} (ha : io.has a) : H a ≠ none := by
  rcases ha with ha | ha
  case inr => exact (h.sep a ha).2.1
  obtain ⟨n, hn⟩ := List.getElem?_of_mem ha
  have : n < m.length := by rw [← h.len]; exact (List.getElem?_eq_some_iff.mp hn).1
  exact RO.live (h.ob n m[n] a (by simp [this]) hn)
theorem RM.notin (h : RM p io H m) {a : Addr} (ha : H a = none) : ¬ io.has a := fun q => h.live q ha
theorem RM.tupOut (h : RM p io H m) {a : Addr} {zs : List V} (ha : H a = some (.tup zs)) : ¬ io.has a := fun q => by
  rcases q with q | q
  case inr => exact (h.sep a q).2.2 zs ha
  obtain ⟨n, hn⟩ := List.getElem?_of_mem q
  have : n < m.length := by rw [← h.len]; exact (List.getElem?_eq_some_iff.mp hn).1
  exact RO.notup (h.ob n m[n] a (by simp [this]) hn) zs ha
/-- a new object that is not the store's -/
theorem Adv.laid {a : Addr} {o : HO} (h : H a = none) : Adv io H io (upd H a o) :=
  ⟨⟨[], by simp, by simp⟩, ⟨[], by simp, by simp⟩, fun b xs e => by rw [upd_ne (ne_of_none e h)]; exact e, fun b _ _ e => by rw [upd_ne (ne_of_none e h)]; exact e, fun b _ e _ => by rw [upd_ne (ne_of_none e h)]; exact e, fun b e => by
    by_cases hb : b = a
    · rw [hb, upd_same] at e; cases e
    · rw [upd_ne hb] at e; exact e⟩
theorem RM.laid {a : Addr} {o : HO} (r : RM p io H m) (h : H a = none) : RM p io (upd H a o) m :=
  r.mono (.laid h) fun b hb => upd_ne fun z => r.live hb (by rw [z]; exact h)
/-! ### steps on values -/
/-- behind a step on values that leaves the store -/
def PostV (p : Par) (io : Ad) (H : Hp) (m : Sto) (r : Option PV) (Q : VK) : Prop := match r with
  | none => False
  | some x => ∀ H' v, Adv io H io H' → RM p io H' m → RV p io H' x v → Q v H'
def rV1 (p : Par) (g : PV → Sto → Option PV) : V → Hp → VK → Prop := fun v H Q => ∃ io m x, RM p io H m ∧ RV p io H x v ∧ PostV p io H m (g x m) Q
def rV2 (p : Par) (g : PV → PV → Sto → Option PV) : R2 := fun v w H Q => ∃ io m x y, RM p io H m ∧ RV p io H x v ∧ RV p io H y w ∧ PostV p io H m (g x y m) Q
/-- a call of what is built in: arguments and the store, which stays -/
def rVA (p : Par) (g : List PV → Sto → Option PV) : List V → Hp → VK → Prop := fun vs H Q => ∃ io m xs, RM p io H m ∧ RVs p io H xs vs ∧ PostV p io H m (g xs m) Q
theorem PostV.same {x : PV} {v : V} {Q : VK} (r : RM p io H m) (h : PostV p io H m (some x) Q) (hv : RV p io H x v) : Q v H := h H v (.refl _ _) r hv
theorem PostV.tup {xs : List PV} {vs : List V} {Q : VK} (r : RM p io H m) (h : PostV p io H m (some (.tup xs)) Q) (hv : RVs p io H xs vs) : ∀ a, H a = none → Q (.ref a) (upd H a (.tup vs)) := fun a ha =>
  h _ _ (.laid ha) (r.laid ha) (by
    simp only [RV]
    exact ⟨a, vs, rfl, .of upd_same, hv.mono (.laid ha)⟩)
theorem PostV.lst {xs : List PV} {vs : List V} {Q : VK} (r : RM p io H m) (h : PostV p io H m (some (.lst xs)) Q) (hv : RVs p io H xs vs) : ∀ a, H a = none → Q (.ref a) (upd H a (.lst vs)) := fun a ha =>
  h _ _ (.laid ha) (r.laid ha) (by
    simp only [RV]
    exact ⟨a, vs, rfl, upd_same, r.notin ha, hv.mono (.laid ha)⟩)
/-! ### lists, tuples that are read -/
/-- a list, wherever it stands -/
def rdL : PV → Sto → Option (List PV)
  | .lst xs, _ => some xs
  | .ref n, m => match m[n]? with
    | some (.lst xs) => some xs
    | _ => none
  | _, _ => none
/-- .. one that is read alone, too -/
def rdQ : PV → Sto → Option (List PV)
  | .lst xs, _ => some xs
  | .ref n, m => match m[n]? with
    | some (.lst xs) => some xs
    | some (.rol xs) => some xs
    | _ => none
  | _, _ => none
theorem rdL_rel {x : PV} {xs : List PV} {v : V} (r : RM p io H m) (e : rdL x m = some xs) (h : RV p io H x v) : ∃ a vs, v = .ref a ∧ H a = some (.lst vs) ∧ RVs p io H xs vs := by
  cases x with
  | lst ys =>
    simp only [rdL, Option.some.injEq] at e
    subst e
    simp only [RV] at h
    obtain ⟨a, vs, h1, h2, _, h3⟩ := h
    exact ⟨a, vs, h1, h2, h3⟩
  | ref n =>
    simp only [RV] at h
    obtain ⟨a, h1, h2⟩ := h
    match q : m[n]? with
    | none => simp [rdL, q] at e
    | some (.ins _ _) => simp [rdL, q] at e
    | some (.lst ys) =>
        simp only [rdL, q, Option.some.injEq] at e
        subst e
        obtain ⟨vs, h3, h4⟩ := (show RO p io H (.lst ys) a from r.ob n _ a q h2)
        exact ⟨a, vs, h1, h3, h4⟩
    | some (.rol ys) => simp [rdL, q] at e
  | _ => simp [rdL] at e
theorem rdQ_rel {x : PV} {xs : List PV} {v : V} (r : RM p io H m) (e : rdQ x m = some xs) (h : RV p io H x v) : ∃ a vs, v = .ref a ∧ SqL p.K H a vs ∧ RVs p io H xs vs := by
  cases x with
  | lst ys =>
    simp only [rdQ, Option.some.injEq] at e
    subst e
    simp only [RV] at h
    obtain ⟨a, vs, h1, h2, _, h3⟩ := h
    exact ⟨a, vs, h1, .of h2, h3⟩
  | ref n =>
    simp only [RV] at h
    obtain ⟨a, h1, h2⟩ := h
    match q : m[n]? with
    | none => simp [rdQ, q] at e
    | some (.ins _ _) => simp [rdQ, q] at e
    | some (.lst ys) =>
        simp only [rdQ, q, Option.some.injEq] at e
        subst e
        obtain ⟨vs, h3, h4⟩ := (show RO p io H (.lst ys) a from r.ob n _ a q h2)
        exact ⟨a, vs, h1, .of h3, h4⟩
    | some (.rol ys) =>
        simp only [rdQ, q, Option.some.injEq] at e
        subst e
        obtain ⟨_, _, vs, h3, h4⟩ := (show RO p io H (.rol ys) a from r.ob n _ a q h2)
        exact ⟨a, vs, h1, h3.sq, h4⟩
  | _ => simp [rdQ] at e
/-! ### operators -/
def vAdd : PV → PV → Sto → Option PV
  | .int i, .int j, _ => some (.int (i + j))
  | .str a, .str b, _ => if a.length + b.length ≤ sizeLine then some (.str (a ++ b)) else none
  | .tup a, .tup b, _ => if a.length + b.length ≤ sizeLine then some (.tup (a ++ b)) else none
  | x, y, m => match rdL x m, rdL y m with
    | some a, some b => if a.length + b.length ≤ sizeLine then some (.lst (a ++ b)) else none
    | _, _ => none
def vI2 (c : Int → Int → Bool) (f : Int → Int → Int) : PV → PV → Sto → Option PV
  | .int i, .int j, _ => if c i j then some (.int (f i j)) else none
  | _, _, _ => none
def cMul (i j : Int) : Bool := (decide (-(2 ^ 64) < i) && decide (i < 2 ^ 64)) || (decide (-(2 ^ 64) < j) && decide (j < 2 ^ 64))
def vSub := vI2 (fun _ _ => true) (· - ·)
def vMul := vI2 cMul (· * ·)
def vMod := vI2 (fun _ j => decide (0 < j)) (· % ·)
def vDiv := vI2 (fun _ j => decide (0 < j) && decide (j < 1073741824)) (· / ·)
def vPow := vI2 (fun i j => decide (0 ≤ j) && decide (j ≤ 1000000) && decide (i.natAbs < 2 ^ 64)) (fun i j => i ^ j.toNat)
theorem OpR_weak {X : Cx} {f : Value → Value → Sem Value} {r r' : R2} (h : OpR X f r) (w : ∀ x y H Q, r' x y H Q → r x y H Q) : OpR X f r' :=
  fun pins s σ H x y v u Q I rx ry q => h pins s σ H x y v u Q I rx ry (w _ _ _ _ q)
theorem ov_add {X : Cx} (hK : X.K = p.K) : OpR X (binaryOp .Add) (rV2 p vAdd) := by
  refine OpR_weak (OpR.or op_add (OpR.or op_add_str (OpR.or op_catA op_cat))) fun v w H Q ⟨io, m, x, y, rm, rx, ry, h⟩ => ?_
  unfold vAdd at h
  split at h
  · simp only [RV] at rx ry
    exact .inl ⟨_, _, rx, ry, h.same rm (by simp [RV])⟩
  · rename_i a b
    split at h
    · rename_i hz
      simp only [RV] at rx ry
      exact .inr (.inl ⟨_, _, rx, ry, by rw [mkS_length, mkS_length]; exact hz, by rw [mkS_append]; exact h.same rm (by simp [RV])⟩)
    · exact h.elim
  · rename_i a b
    split at h
    · rename_i hz
      have rx' := rx
      have ry' := ry
      simp only [RV] at rx ry
      obtain ⟨c, vs, e1, s1, r1⟩ := rx
      obtain ⟨d, ws, e2, s2, r2⟩ := ry
      rw [← hK] at s1 s2
      refine .inr (.inr (.inl ⟨c, d, vs, ws, e1, e2, s1, s2, by rw [← r1.length, ← r2.length]; exact hz, fun e => ?_, fun _ e => ?_, fun _ _ => h.tup rm (r1.append r2)⟩))
      · subst e
        have : a = [] := List.eq_nil_of_length_eq_zero (by rw [r1.length]; rfl)
        subst this
        rw [e2] at ry'
        exact h.same rm ry'
      · subst e
        have : b = [] := List.eq_nil_of_length_eq_zero (by rw [r2.length]; rfl)
        subst this
        rw [e1] at rx'
        rw [List.append_nil] at h
        exact h.same rm rx'
    · exact h.elim
  · split at h
    · rename_i a b ha hb
      split at h
      · rename_i hz
        obtain ⟨c, vs, e1, s1, r1⟩ := rdL_rel rm ha rx
        obtain ⟨d, ws, e2, s2, r2⟩ := rdL_rel rm hb ry
        exact .inr (.inr (.inr ⟨c, d, vs, ws, e1, e2, s1, s2, by rw [← r1.length, ← r2.length]; exact hz, h.lst rm (r1.append r2)⟩))
      · exact h.elim
    · exact h.elim
theorem ov_I2 {X : Cx} {op : Operator} {C : Int → Int → Prop} {c : Int → Int → Bool} {f : Int → Int → Int} (h : OpR X (binaryOp op) (rI C fun i j => .int (f i j))) (hc : ∀ i j, c i j = true → C i j) : OpR X (binaryOp op) (rV2 p (vI2 c f)) := by
  refine OpR_weak h fun v w H Q ⟨io, m, x, y, rm, rx, ry, q⟩ => ?_
  unfold vI2 at q
  split at q
  · split at q
    · rename_i hz
      simp only [RV] at rx ry
      exact ⟨_, _, rx, ry, hc _ _ hz, q.same rm (by simp [RV])⟩
    · exact q.elim
  · exact q.elim
theorem ov_sub {X : Cx} : OpR X (binaryOp .Sub) (rV2 p vSub) :=
  ov_I2 (C := fun _ _ => True) (OpR_weak op_sub fun _ _ _ _ ⟨i, j, a, b, _, q⟩ => ⟨i, j, a, b, q⟩) fun _ _ _ => trivial
theorem ov_mul {X : Cx} : OpR X (binaryOp .Mult) (rV2 p vMul) := ov_I2 op_mul fun i j h => by
  unfold cMul at h
  simpa [CMul] using h
theorem ov_mod {X : Cx} : OpR X (binaryOp .Mod) (rV2 p vMod) := ov_I2 op_mod fun i j h => by simpa using h
theorem ov_div {X : Cx} : OpR X (binaryOp .FloorDiv) (rV2 p vDiv) := ov_I2 op_fdiv fun i j h => by simpa [CDiv] using h
theorem ov_pow {X : Cx} : OpR X (binaryOp .Pow) (rV2 p vPow) := ov_I2 op_pow fun i j h => by simpa [CPow, and_assoc] using h
/-! ### data, ==, in -/
mutual
/-- what a value is as data, to a depth; lists of the store where asked -/
def toD (m : Sto) : Nat → PV → Option PyData
  | _, .non => some .none
  | _, .bl b => some (.bool b)
  | _, .int i => some (.int i)
  | _, .str x => some (.str (mkS x))
  | 0, _ => none
  | k + 1, .tup xs => (toDs m k xs).map .tuple
  | k + 1, .lst xs => (toDs m k xs).map .list
  | k + 1, .ref n => match m[n]? with
    | some (.lst xs) => (toDs m k xs).map .list
    | some (.rol xs) => (toDs m k xs).map .list
    | _ => none
  | _, _ => none
def toDs (m : Sto) : Nat → List PV → Option (List PyData)
  | _, [] => some []
  | k, x :: xs => match toD m k x, toDs m k xs with
    | some d, some ds => some (d :: ds)
    | _, _ => none
end
end
end Mini
namespace Mini
open PySem L2 PySem.SeqAt
section
variable {p : Par} {io io' : Ad} {H H' : Hp} {m : Sto}
mutual
theorem toD_rel (r : RM p io H m) : ∀ (k : Nat) (x : PV) (d : PyData) (v : V), toD m k x = some d → RV p io H x v → Dp p.K H v d ∧ d.plain = true ∧ d.depth ≤ k + 1
  | k, .non, d, v, e, h => by
    cases k <;> simp only [toD, Option.some.injEq] at e <;> subst e <;> simp only [RV] at h <;> subst h <;> exact ⟨.non, by simp [PyData.plain], by simp [PyData.depth]⟩
  | k, .bl b, d, v, e, h => by
    cases k <;> simp only [toD, Option.some.injEq] at e <;> subst e <;> simp only [RV] at h <;> subst h <;> exact ⟨.bl b, by simp [PyData.plain], by simp [PyData.depth]⟩
  | k, .int b, d, v, e, h => by
    cases k <;> simp only [toD, Option.some.injEq] at e <;> subst e <;> simp only [RV] at h <;> subst h <;> exact ⟨.int b, by simp [PyData.plain], by simp [PyData.depth]⟩
  | k, .str b, d, v, e, h => by
    cases k <;> simp only [toD, Option.some.injEq] at e <;> subst e <;> simp only [RV] at h <;> subst h <;> exact ⟨.str _, by simp [PyData.plain], by simp [PyData.depth]⟩
  | 0, .tup xs, d, v, e, h => by simp [toD] at e
  | 0, .lst xs, d, v, e, h => by simp [toD] at e
  | 0, .dct ks xs, d, v, e, h => by simp [toD] at e
  | k + 1, .dct ks xs, d, v, e, h => by simp [toD] at e
  | 0, .ref n, d, v, e, h => by simp [toD] at e
  | 0, .glo n, d, v, e, h => by simp [toD] at e
  | k + 1, .glo n, d, v, e, h => by simp [toD] at e
  | 0, .ty n, d, v, e, h => by simp [toD] at e
  | k + 1, .ty n, d, v, e, h => by simp [toD] at e
  | k + 1, .tup xs, d, v, e, h => by
    simp only [toD, Option.map_eq_some_iff] at e
    obtain ⟨ds, e, rfl⟩ := e
    simp only [RV] at h
    obtain ⟨a, vs, rfl, s, q⟩ := h
    obtain ⟨h1, h2, h3⟩ := toDs_rel r k xs ds vs e q
    exact ⟨.tup s h1, by simpa [PyData.plain] using h2, by simp only [PyData.depth]; omega⟩
  | k + 1, .lst xs, d, v, e, h => by
    simp only [toD, Option.map_eq_some_iff] at e
    obtain ⟨ds, e, rfl⟩ := e
    simp only [RV] at h
    obtain ⟨a, vs, rfl, s, _, q⟩ := h
    obtain ⟨h1, h2, h3⟩ := toDs_rel r k xs ds vs e q
    exact ⟨.lst (.of s) h1, by simpa [PyData.plain] using h2, by simp only [PyData.depth]; omega⟩
  | k + 1, .ref n, d, v, e, h => by
    simp only [RV] at h
    obtain ⟨a, rfl, ha⟩ := h
    match q : m[n]? with
    | none => simp [toD, q] at e
    | some (.ins _ _) => simp [toD, q] at e
    | some (.lst ys) =>
      simp only [toD, q, Option.map_eq_some_iff] at e
      obtain ⟨ds, e, rfl⟩ := e
      obtain ⟨vs, h3, h4⟩ := (show RO p io H (.lst ys) a from r.ob n _ a q ha)
      obtain ⟨h1, h2, h3'⟩ := toDs_rel r k ys ds vs e h4
      exact ⟨.lst (.of h3) h1, by simpa [PyData.plain] using h2, by simp only [PyData.depth]; omega⟩
    | some (.rol ys) =>
      simp only [toD, q, Option.map_eq_some_iff] at e
      obtain ⟨ds, e, rfl⟩ := e
      obtain ⟨_, _, vs, h3, h4⟩ := (show RO p io H (.rol ys) a from r.ob n _ a q ha)
      obtain ⟨h1, h2, h3'⟩ := toDs_rel r k ys ds vs e h4
      exact ⟨.lst h3.sq h1, by simpa [PyData.plain] using h2, by simp only [PyData.depth]; omega⟩
theorem toDs_rel (r : RM p io H m) : ∀ (k : Nat) (xs : List PV) (ds : List PyData) (vs : List V), toDs m k xs = some ds → RVs p io H xs vs → DpAll p.K H vs ds ∧ PyData.plainAll ds = true ∧ PyData.depthAll ds ≤ k + 1
  | k, [], ds, vs, e, h => by
    simp only [toDs, Option.some.injEq] at e
    subst e
    simp only [RVs] at h
    subst h
    exact ⟨.nil, by simp [PyData.plainAll], by simp [PyData.depthAll]⟩
  | k, x :: xs, ds, vs, e, h => by
    simp only [toDs] at e
    split at e
    · rename_i d ds' e1 e2
      simp only [Option.some.injEq] at e
      subst e
      simp only [RVs] at h
      obtain ⟨v, vr, rfl, q1, q2⟩ := h
      obtain ⟨h1, h2, h3⟩ := toD_rel r k x d v e1 q1
      obtain ⟨g1, g2, g3⟩ := toDs_rel r k xs ds' vr e2 q2
      exact ⟨.cons h1 g1, by simp [PyData.plainAll, h2, g2], by simp only [PyData.depthAll]; omega⟩
    · cases e
end
/-- how deep data may be -/
def deepest : Nat := 50
def vEqB (neg : Bool) (x y : PV) (m : Sto) : Option PV := match toD m deepest x, toD m deepest y with
  | some d, some e => some (.bl (if neg then !PyData.eqv d e else PyData.eqv d e))
  | _, _ => none
def vEq := vEqB false
def vNe := vEqB true
def vInB (neg : Bool) (x y : PV) (m : Sto) : Option PV := match x, y with
  | .str [c], .str z => some (.bl (if neg then !decide (c ∈ z) else decide (c ∈ z)))
  | x, y => match toD m deepest x, toD m deepest y with
    | some d, some (.list ds) => some (.bl (if neg then !ds.any fun z => PyData.eqv z d else ds.any fun z => PyData.eqv z d))
    | some d, some (.tuple ds) => some (.bl (if neg then !ds.any fun z => PyData.eqv z d else ds.any fun z => PyData.eqv z d))
    | _, _ => none
def vIn := vInB false
def vNotIn := vInB true
theorem minD {X : Cx} {d e : PyData} (hu : X.A.units + 64 < cLine) (h : d.depth ≤ deepest + 1) : X.A.units + min d.depth e.depth < cLine := by
  have : min d.depth e.depth ≤ d.depth := Nat.min_le_left _ _
  unfold deepest at h
  omega
theorem oc_eq {X : Cx} (hK : X.K = p.K) (hu : X.A.units + 64 < cLine) : OpR X (compareOp .Eq) (rV2 p vEq) := by
  intro pins s σ H x y v u Q I rx ry ⟨io, m, a, b, rm, ra, rb, h⟩
  unfold vEq vEqB at h
  split at h
  · rename_i d e e1 e2
    obtain ⟨d1, d2, d3⟩ := toD_rel rm _ _ _ _ e1 ra
    obtain ⟨g1, g2, g3⟩ := toD_rel rm _ _ _ _ e2 rb
    rw [← hK] at d1 g1
    obtain ⟨as, r1⟩ := Dp.reads I d x v d1 rx
    obtain ⟨bs, r2⟩ := Dp.reads I e y u g1 ry
    refine eq_plain r1 r2 d2 g2 (minD hu d3) ⟨.bl _, H, I, rfl, PostV.same rm h (by simp [RV])⟩
  · exact h.elim
theorem oc_ne {X : Cx} (hK : X.K = p.K) (hu : X.A.units + 64 < cLine) : OpR X (compareOp .NotEq) (rV2 p vNe) := by
  intro pins s σ H x y v u Q I rx ry ⟨io, m, a, b, rm, ra, rb, h⟩
  unfold vNe vEqB at h
  split at h
  · rename_i d e e1 e2
    obtain ⟨d1, d2, d3⟩ := toD_rel rm _ _ _ _ e1 ra
    obtain ⟨g1, g2, g3⟩ := toD_rel rm _ _ _ _ e2 rb
    rw [← hK] at d1 g1
    obtain ⟨as, r1⟩ := Dp.reads I d x v d1 rx
    obtain ⟨bs, r2⟩ := Dp.reads I e y u g1 ry
    refine ne_plain r1 r2 d2 g2 (minD hu d3) ⟨.bl _, H, I, rfl, PostV.same rm h (by simp [RV])⟩
  · exact h.elim
theorem minA {X : Cx} {d : PyData} {es : List PyData} (hu : X.A.units + 64 < cLine) (h : d.depth ≤ deepest + 1) : X.A.units + 1 + min (PyData.depthAll es) d.depth < cLine := by
  have : min (PyData.depthAll es) d.depth ≤ d.depth := Nat.min_le_right _ _
  unfold deepest at h
  omega
theorem oc_in {X : Cx} (hK : X.K = p.K) (hu : X.A.units + 64 < cLine) : OpR X (compareOp .In) (rV2 p vIn) := by
  intro pins s σ H x y v u Q I rx ry ⟨io, m, a, b, rm, ra, rb, h⟩
  unfold vIn vInB at h
  split at h
  · simp only [RV] at ra rb
    exact op_in_sign pins s σ H x y v u Q I rx ry ⟨_, _, ra, rb, by rw [mkS_cps]; exact PostV.same rm h (by simp [RV])⟩
  · split at h
    · rename_i d ds e1 e2
      obtain ⟨d1, d2, d3⟩ := toD_rel rm _ _ _ _ e1 ra
      obtain ⟨g1, g2, g3⟩ := toD_rel rm _ _ _ _ e2 rb
      rw [← hK] at d1 g1
      obtain ⟨as, r1⟩ := Dp.reads I d x v d1 rx
      obtain ⟨bs, r2⟩ := Dp.reads I (.list ds) y u g1 ry
      exact in_list_data r2 r1 (by simpa [PyData.plain] using g2) d2 (minA hu d3) ⟨.bl _, H, I, rfl, PostV.same rm h (by simp [RV])⟩
    · rename_i d ds e1 e2
      obtain ⟨d1, d2, d3⟩ := toD_rel rm _ _ _ _ e1 ra
      obtain ⟨g1, g2, g3⟩ := toD_rel rm _ _ _ _ e2 rb
      rw [← hK] at d1 g1
      obtain ⟨as, r1⟩ := Dp.reads I d x v d1 rx
      obtain ⟨bs, r2⟩ := Dp.reads I (.tuple ds) y u g1 ry
      exact in_tuple_data r2 r1 (by simpa [PyData.plain] using g2) d2 (minA hu d3) ⟨.bl _, H, I, rfl, PostV.same rm h (by simp [RV])⟩
    · exact h.elim
theorem oc_notIn {X : Cx} (hK : X.K = p.K) (hu : X.A.units + 64 < cLine) : OpR X (compareOp .NotIn) (rV2 p vNotIn) := by
  intro pins s σ H x y v u Q I rx ry ⟨io, m, a, b, rm, ra, rb, h⟩
  unfold vNotIn vInB at h
  split at h
  · simp only [RV] at ra rb
    exact op_notIn_sign pins s σ H x y v u Q I rx ry ⟨_, _, ra, rb, by rw [mkS_cps]; exact PostV.same rm h (by simp [RV])⟩
  · split at h
    · rename_i d ds e1 e2
      obtain ⟨d1, d2, d3⟩ := toD_rel rm _ _ _ _ e1 ra
      obtain ⟨g1, g2, g3⟩ := toD_rel rm _ _ _ _ e2 rb
      rw [← hK] at d1 g1
      obtain ⟨as, r1⟩ := Dp.reads I d x v d1 rx
      obtain ⟨bs, r2⟩ := Dp.reads I (.list ds) y u g1 ry
      exact notIn_list_data r2 r1 (by simpa [PyData.plain] using g2) d2 (minA hu d3) ⟨.bl _, H, I, rfl, PostV.same rm h (by simp [RV])⟩
    · rename_i d ds e1 e2
      obtain ⟨d1, d2, d3⟩ := toD_rel rm _ _ _ _ e1 ra
      obtain ⟨g1, g2, g3⟩ := toD_rel rm _ _ _ _ e2 rb
      rw [← hK] at d1 g1
      obtain ⟨as, r1⟩ := Dp.reads I d x v d1 rx
      obtain ⟨bs, r2⟩ := Dp.reads I (.tuple ds) y u g1 ry
      exact notIn_tuple_data r2 r1 (by simpa [PyData.plain] using g2) d2 (minA hu d3) ⟨.bl _, H, I, rfl, PostV.same rm h (by simp [RV])⟩
    · exact h.elim
/-! ### order, None -/
def vCmpI (f : Int → Int → Bool) : PV → PV → Sto → Option PV
  | .int i, .int j, _ => some (.bl (f i j))
  | _, _, _ => none
def vLt := vCmpI fun i j => decide (i < j)
def vLe := vCmpI fun i j => decide (i ≤ j)
def vGt := vCmpI fun i j => decide (j < i)
def vGe := vCmpI fun i j => decide (j ≤ i)
theorem oc_I {X : Cx} {op : CmpOp} {f : Int → Int → Bool} (h : OpR X (compareOp op) (rI0 fun i j => .bl (f i j))) : OpR X (compareOp op) (rV2 p (vCmpI f)) := by
  refine OpR_weak h fun v w H Q ⟨io, m, x, y, rm, rx, ry, q⟩ => ?_
  unfold vCmpI at q
  split at q
  · simp only [RV] at rx ry
    exact ⟨_, _, rx, ry, q.same rm (by simp [RV])⟩
  · exact q.elim
theorem oc_lt {X : Cx} : OpR X (compareOp .Lt) (rV2 p vLt) := oc_I op_lt
theorem oc_le {X : Cx} : OpR X (compareOp .LtE) (rV2 p vLe) := oc_I op_le
theorem oc_gt {X : Cx} : OpR X (compareOp .Gt) (rV2 p vGt) := oc_I op_gt
theorem oc_ge {X : Cx} : OpR X (compareOp .GtE) (rV2 p vGe) := oc_I op_ge
/-- x is None -/
def isNon : PV → Bool
  | .non => true
  | _ => false
theorem isNon_rel {x : PV} {v : V} (h : RV p io H x v) : isNon x = decide (v = .non) := by
  cases x <;> simp only [RV] at h <;> simp only [isNon]
  all_goals first
    | (subst h; rfl)
    | (obtain ⟨_, _, h, _⟩ := h; subst h; rfl)
    | (obtain ⟨_, h, _⟩ := h; subst h; rfl)
def vIs (neg : Bool) : PV → PV → Sto → Option PV := fun x y _ => match y with
  | .non => some (.bl (if neg then !isNon x else isNon x))
  | _ => none
theorem oc_is {X : Cx} : OpR X (compareOp .Is) (rV2 p (vIs false)) := by
  refine OpR_weak op_isN fun v w H Q ⟨io, m, x, y, rm, rx, ry, q⟩ => ?_
  unfold vIs at q
  split at q
  · simp only [RV] at ry
    exact ⟨ry, by rw [← isNon_rel rx]; exact q.same rm (by simp [RV])⟩
  · exact q.elim
theorem oc_isNot {X : Cx} : OpR X (compareOp .IsNot) (rV2 p (vIs true)) := by
  refine OpR_weak op_notN fun v w H Q ⟨io, m, x, y, rm, rx, ry, q⟩ => ?_
  unfold vIs at q
  split at q
  · simp only [RV] at ry
    exact ⟨ry, by rw [← isNon_rel rx]; exact q.same rm (by simp [RV])⟩
  · exact q.elim
end
end Mini
namespace Mini
open PySem L2
abbrev Fe := Env → Sto → Res PV
abbrev Ft := Env → Sto → Res Bool
abbrev Fa := Env → Sto → Res (List PV)
abbrev Fs := Env → Sto → Res Flo
/-! ### the meanings -/
def fVar (i : Nat) : Fe := fun r m => match r[i]? with
  | some (some v) => some (.ok v, m)
  | _ => none
def fC (v : PV) : Fe := fun _ m => some (.ok v, m)
def up (x : Option PV) (m : Sto) : Res PV := match x with
  | some v => some (.ok v, m)
  | none => none
def f1 (g : PV → Sto → Option PV) (fa : Fe) : Fe := fun r m => (fa r m).bind fun x m1 => up (g x m1) m1
def f2 (g : PV → PV → Sto → Option PV) (fa fb : Fe) : Fe := fun r m => (fa r m).bind fun x m1 => (fb r m1).bind fun y m2 => up (g x y m2) m2
def toB : PV → Option Bool
  | .bl b => some b
  | _ => none
/-- a test of a truth -/
def fTst (fa : Fe) : Ft := fun r m => (fa r m).bind fun x m1 => match x with
  | .bl b => some (.ok b, m1)
  | _ => none
def fNotT (fa : Ft) : Ft := fun r m => (fa r m).bind fun b m1 => some (.ok (!b), m1)
def fAndT (fa fb : Ft) : Ft := fun r m => (fa r m).bind fun b m1 => if b then fb r m1 else some (.ok false, m1)
def fOrT (fa fb : Ft) : Ft := fun r m => (fa r m).bind fun b m1 => if b then some (.ok true, m1) else fb r m1
def fNot (fa : Fe) : Fe := fun r m => (fa r m).bind fun x m1 => match x with
  | .bl b => some (.ok (.bl (!b)), m1)
  | _ => none
def fAnd (fa fb : Fe) : Fe := fun r m => (fa r m).bind fun x m1 => match x with
  | .bl b => if b then fb r m1 else some (.ok (.bl false), m1)
  | _ => none
def fOr (fa fb : Fe) : Fe := fun r m => (fa r m).bind fun x m1 => match x with
  | .bl b => if b then some (.ok (.bl true), m1) else fb r m1
  | _ => none
def fIf (ft : Ft) (fa fb : Fe) : Fe := fun r m => (ft r m).bind fun b m1 => if b then fa r m1 else fb r m1
def aNil : Fa := fun _ m => some (.ok [], m)
def aCons (fa : Fe) (fr : Fa) : Fa := fun r m => (fa r m).bind fun x m1 => (fr r m1).bind fun xs m2 => some (.ok (x :: xs), m2)
def fTup (fa : Fa) : Fe := fun r m => (fa r m).bind fun xs m1 => if xs.length ≤ sizeLine then some (.ok (.tup xs), m1) else none
def lDisp (fa : Fa) : Fa := fun r m => (fa r m).bind fun xs m1 => if xs.length ≤ sizeLine then some (.ok xs, m1) else none
def fLst (fa : Fa) : Fe := fun r m => (fa r m).bind fun xs m1 => some (.ok (.lst xs), m1)
/-- a list laid into the store -/
def fAlloc (fa : Fa) : Fe := fun r m => (fa r m).bind fun xs m1 => some (.ok (.ref m1.length), m1 ++ [.lst xs])
/-- a call of a meaning -/
def fCall (F : List PV → Sto → Res PV) (fa : Fa) : Fe := fun r m => (fa r m).bind fun xs m1 => F xs m1
def fBlt (g : List PV → Sto → Option PV) (fa : Fa) : Fe := fun r m => (fa r m).bind fun xs m1 => up (g xs m1) m1
/-- a new instance -/
def fMake (c : Nat) (F : List PV → Sto → Res PV) (fa : Fa) : Fe := fun r m => (fa r m).bind fun xs m1 => (F (.ref m1.length :: xs) (m1 ++ [.ins c []])).bind fun v m2 => match v with
  | .non => some (.ok (.ref m1.length), m2)
  | _ => none
def insOf (x : PV) (m : Sto) : Option (Nat × Nat × List (String × PV)) := match x with
  | .ref n => match m[n]? with
    | some (.ins c fs) => some (n, c, fs)
    | _ => none
  | _ => none
def vFld (k : String) (x : PV) (m : Sto) : Option PV := match insOf x m with
  | some (_, _, fs) => fs.lookup k
  | none => none
/-- a method of the class c: the receiver, then the arguments -/
def fMeth (c : Nat) (mth : String) (F : List PV → Sto → Res PV) (fo : Fe) (fa : Fa) : Fe := fun r m => (fo r m).bind fun x m1 => match insOf x m1 with
  | some (_, c', fs) => if c' = c ∧ fs.lookup mth = none then (fa r m1).bind fun xs m2 => F (x :: xs) m2 else none
  | none => none
section
variable {p : Par} {W : WX} {X : Cx} {pos : Pos} {a b e c : Expr} {es : List Expr} {fa fb fc : Fe} {ft fu : Ft} {fr : Fa}
/-- what holds of the place where code stands -/
structure Good (p : Par) (W : WX) (X : Cx) : Prop where
  hK : X.K = p.K
  nd : X.N.Nodup
  calm : X.calm = true
  po : PassesOwn (model X.prog X.w) X.A X.env X.xe
  hu : X.A.units + 64 < cLine
theorem PostG.val {io : Ad} {H : Hp} {σ : St} {m : Sto} {x : Option PV} {Q : VK} (h : PostG p W io H σ (up x m) fun x io' H' _ => ∀ v, RV p io' H' x v → Q v H') : PostV p io H m x Q := by
  cases x with
  | none => exact h
  | some x => exact fun H' v a rm rv => h io H' a rm v rv
theorem r_var {i : Nat} {x : Str} (hN : X.N[i]? = some x) (hv : Vis X.env.scope x) (hd : (x == ("__debug__" : Str)) = false := by decide) (hcd : (x == ("__classdict__" : Str)) = false := by decide) : PE X (.Name x pos) (tE p W (fVar i)) := by
  refine (pe_var hN hv hd hcd).weak fun σ H Q ⟨io, r, m, rs, rm, h⟩ => ?_
  unfold fVar at h
  split at h
  · rename_i v hv'
    obtain ⟨w, e1, q⟩ := rs.at_ i v hv'
    exact ⟨w, e1, h io H (.refl _ _) rm w q⟩
  · exact h.elim
theorem r_const {v : V} {x : PV} (h : PE X e (tC v)) (hx : ∀ io H, RV p io H x v) : PE X e (tE p W (fC x)) :=
  h.weak fun σ H Q ⟨io, r, m, rs, rm, q⟩ => q io H (.refl _ _) rm v (hx io H)
theorem r_int {i : Int} {j} : PE X (.Constant (.int i) j pos) (tE p W (fC (.int i))) := r_const pe_int fun _ _ => by simp [RV]
theorem r_bl {i : Bool} {j} : PE X (.Constant (.bool i) j pos) (tE p W (fC (.bl i))) := r_const pe_bl fun _ _ => by simp [RV]
theorem r_non {j} : PE X (.Constant .none j pos) (tE p W (fC .non)) := r_const pe_non fun _ _ => by simp [RV]
theorem r_str {x : Str} {j} {l : List Nat} (hl : mkS l = x) : PE X (.Constant (.str x) j pos) (tE p W (fC (.str l))) := r_const pe_str fun _ _ => by simp [RV, hl]
/-- a name of the module -/
theorem r_glob {x : Str} {v : V} {u : Value} {y : PV} (hg : Gl X x) (hm : X.mg x = some u) (r : RelV v u) (hy : ∀ io H, RV p io H y v) (hd : (x == ("__debug__" : Str)) = false := by decide) : PE X (.Name x pos) (tE p W (fC y)) := r_const (pe_glob hg hm r hd) hy
theorem r_bltn {x : Str} {v : V} {u : Value} {y : PV} (hg : Gl X x) (hm : X.mg x = none) (hv : bootBuiltins x = some u) (r : RelV v u) (hy : ∀ io H, RV p io H y v) (hn : x ≠ "__name__" := by decide) (hd : (x == ("__debug__" : Str)) = false := by decide) : PE X (.Name x pos) (tE p W (fC y)) :=
  r_const (pe_bltn hg hm hv r hn hd) hy
theorem bin_weak {g : PV → PV → Sto → Option PV} {σ : St} {H : Hp} {Q : VK} (h : tE p W (f2 g fa fb) σ H Q) : tOp (rV2 p g) (tE p W fa) (tE p W fb) σ H Q := by
  obtain ⟨io, r, m, rs, rm, h⟩ := h
  refine ⟨io, r, m, rs, rm, PostG.mono (PostG.bind h) fun x io1 H1 m1 a1 rm1 h1 v rv => ?_⟩
  refine ⟨io1, r, m1, rs.mono a1, rm1, PostG.mono (PostG.bind h1) fun y io2 H2 m2 a2 rm2 h2 w rw => ?_⟩
  exact ⟨io2, m2, x, y, rm2, rv.mono a2, rw, h2.val⟩
theorem r_bin {op : Operator} {g : PV → PV → Sto → Option PV} (ho : OpR X (binaryOp op) (rV2 p g)) (ha : PE X a (tE p W fa)) (hb : PE X b (tE p W fb)) : PE X (.BinOp a op b pos) (tE p W (f2 g fa fb)) :=
  (pe_op ho ha hb).weak fun _ _ _ => bin_weak
def vNeg : PV → Sto → Option PV := fun x _ => match x with
  | .int i => some (.int (-i))
  | _ => none
theorem r_neg (ha : PE X a (tE p W fa)) : PE X (.UnaryOp .USub a pos) (tE p W (f1 vNeg fa)) := by
  refine (pe_un un_neg ha).weak fun σ H Q ⟨io, r, m, rs, rm, h⟩ => ?_
  refine ⟨io, r, m, rs, rm, PostG.mono (PostG.bind h) fun x io1 H1 m1 a1 rm1 h1 v rv => ?_⟩
  have q := h1.val
  unfold vNeg at q
  split at q
  · simp only [RV] at rv
    exact ⟨_, rv, q.same rm1 (by simp [RV])⟩
  · exact q.elim
theorem r_cmp {op : CmpOp} {g : PV → PV → Sto → Option PV} (ho : OpR X (compareOp op) (rV2 p g)) (ha : PE X a (tE p W fa)) (hb : PE X b (tE p W fb)) (hm : behindInMarks op b = false) : PE X (.Compare a [op] [b] pos) (tE p W (f2 g fa fb)) :=
  (pe_cmpR ho ha hb hm).weak fun _ _ _ => bin_weak
/-- what a test's value is -/
theorem tst_of {io : Ad} {H : Hp} {σ : St} {x : PV} {m : Sto} {v : V} {Q : Bool → Hp → Prop} (rm : RM p io H m) (rv : RV p io H x v)
    (h : PostG p W io H σ (match x with | .bl b => some (.ok b, m) | _ => none) fun b _ H' _ => Q b H') : ∃ k, v = .bl k ∧ Q k H := by
  split at h
  · simp only [RV] at rv
    exact ⟨_, rv, PostG.of_ok rm h⟩
  · exact h.elim
theorem tst_weak {σ : St} {H : Hp} {Q : Bool → Hp → Prop} (h : tT p W (fTst fa) σ H Q) : tE p W fa σ H fun v H' => ∃ k, v = .bl k ∧ Q k H' := by
  obtain ⟨io, r, m, rs, rm, h⟩ := h
  exact ⟨io, r, m, rs, rm, PostG.mono (PostG.bind h) fun x io1 H1 m1 a1 rm1 h1 v rv => tst_of rm1 rv h1⟩
theorem t_val (ha : PE X a (tE p W fa)) (he : ∀ whole, isTrue a X.env whole = (do let v ← whole; standAt a.pos; holding [v] (truthy v)) := by intro _; rfl) : PT X a (tT p W (fTst fa)) :=
  (pt_val ha he).weak fun _ _ _ => tst_weak
theorem t_cmp {op : CmpOp} {g : PV → PV → Sto → Option PV} (ho : OpR X (compareOp op) (rV2 p g)) (ha : PE X a (tE p W fa)) (hb : PE X b (tE p W fb)) (hm : behindInMarks op b = false) : PT X (.Compare a [op] [b] pos) (tT p W (fTst (f2 g fa fb))) :=
  (pt_cmpR ho ha hb hm).weak fun _ _ _ h => bin_weak (tst_weak h)
/-- a op b op' c -/
def fChain (g g' : PV → PV → Sto → Option PV) (fa fb fc : Fe) : Fe := fun r m => (fa r m).bind fun x m1 => (fb r m1).bind fun y m2 => match g x y m2 with
  | some (.bl k) => if k then (fc r m2).bind fun z m3 => up (g' y z m3) m3 else some (.ok (.bl false), m2)
  | _ => none
theorem chain_weak {g g' : PV → PV → Sto → Option PV} {σ : St} {H : Hp} {Q : VK} (h : tE p W (fChain g g' fa fb fc) σ H Q) : tChain (rV2 p g) (rV2 p g') (tE p W fa) (tE p W fb) (tE p W fc) σ H Q := by
  obtain ⟨io, r, m, rs, rm, h⟩ := h
  refine ⟨io, r, m, rs, rm, PostG.mono (PostG.bind h) fun x io1 H1 m1 a1 rm1 h1 v rv => ?_⟩
  refine ⟨io1, r, m1, rs.mono a1, rm1, PostG.mono (PostG.bind h1) fun y io2 H2 m2 a2 rm2 h2 w rw => ?_⟩
  split at h2
  · rename_i k hk
    refine ⟨io2, m2, x, y, rm2, rv.mono a2, rw, ?_⟩
    rw [hk]
    intro H3 z a3 rm3 rz
    simp only [RV] at rz
    refine ⟨k, rz, ?_⟩
    cases k with
    | true =>
      rw [if_pos rfl]
      rw [if_pos rfl] at h2
      refine ⟨io2, r, m2, (rs.mono a1).mono (a2.trans a3), rm3, PostG.mono (PostG.bind (PostG.adv a3 h2)) fun z io4 H4 m4 a4 rm4 h4 u ru => ?_⟩
      exact ⟨io4, m4, y, z, rm4, rw.mono (a3.trans a4), ru, h4.val⟩
    | false =>
      rw [if_neg Bool.false_ne_true]
      rw [if_neg Bool.false_ne_true] at h2
      exact h2 io2 H3 a3 rm3 _ (by simp [RV])
  · exact h2.elim
theorem r_chain {op op' : CmpOp} {g g' : PV → PV → Sto → Option PV} (ho : OpR X (compareOp op) (rV2 p g)) (ho' : OpR X (compareOp op') (rV2 p g')) (ha : PE X a (tE p W fa)) (hb : PE X b (tE p W fb)) (hc : PE X c (tE p W fc))
    (hm : lastMarks [op, op'] [b, c] = false := by with_unfolding_all rfl) : PE X (.Compare a [op, op'] [b, c] pos) (tE p W (fChain g g' fa fb fc)) :=
  (pe_chain ho ho' ha hb hc hm).weak fun _ _ _ => chain_weak
theorem t_chain {op op' : CmpOp} {g g' : PV → PV → Sto → Option PV} (ho : OpR X (compareOp op) (rV2 p g)) (ho' : OpR X (compareOp op') (rV2 p g')) (ha : PE X a (tE p W fa)) (hb : PE X b (tE p W fb)) (hc : PE X c (tE p W fc))
    (hm : lastMarks [op, op'] [b, c] = false := by with_unfolding_all rfl) : PT X (.Compare a [op, op'] [b, c] pos) (tT p W (fTst (fChain g g' fa fb fc))) :=
  (pt_chain ho ho' ha hb hc hm).weak fun _ _ _ h => chain_weak (tst_weak h)
theorem t_not (ha : PT X a (tT p W ft)) : PT X (.UnaryOp .Not a pos) (tT p W (fNotT ft)) :=
  (pt_not ha).weak fun σ H Q ⟨io, r, m, rs, rm, h⟩ => ⟨io, r, m, rs, rm, PostG.mono (PostG.bind h) fun x io1 H1 m1 a1 rm1 h1 => PostG.of_ok rm1 h1⟩
theorem r_not (ha : PE X a (tE p W fa)) : PE X (.UnaryOp .Not a pos) (tE p W (fNot fa)) := by
  refine (pe_not ha).weak fun σ H Q ⟨io, r, m, rs, rm, h⟩ => ⟨io, r, m, rs, rm, PostG.mono (PostG.bind h) fun x io1 H1 m1 a1 rm1 h1 v rv => ?_⟩
  split at h1
  · simp only [RV] at rv
    exact ⟨_, rv, PostG.of_ok rm1 h1 _ (by simp [RV])⟩
  · exact h1.elim
section
variable {rest : List Expr}
theorem w_and1 (ha : PT X a (tT p W ft)) : PW X (.BoolOp .And [a] pos) (tT p W ft) := pw_and1 ha
theorem w_or1 (ha : PT X a (tT p W ft)) : PW X (.BoolOp .Or [a] pos) (tT p W ft) := pw_or1 ha
theorem w_and (ha : PT X a (tT p W ft)) (hb : PW X (.BoolOp .And (b :: rest) pos) (tT p W fu)) : PW X (.BoolOp .And (a :: b :: rest) pos) (tT p W (fAndT ft fu)) := by
  refine (pw_and ha hb).weak fun σ H Q ⟨io, r, m, rs, rm, h⟩ => ⟨io, r, m, rs, rm, PostG.mono (PostG.bind h) fun x io1 H1 m1 a1 rm1 h1 => ?_⟩
  cases x with
  | true => exact ⟨io1, r, m1, rs.mono a1, rm1, h1⟩
  | false => exact PostG.of_ok rm1 h1
theorem w_or (ha : PT X a (tT p W ft)) (hb : PW X (.BoolOp .Or (b :: rest) pos) (tT p W fu)) : PW X (.BoolOp .Or (a :: b :: rest) pos) (tT p W (fOrT ft fu)) := by
  refine (pw_or ha hb).weak fun σ H Q ⟨io, r, m, rs, rm, h⟩ => ⟨io, r, m, rs, rm, PostG.mono (PostG.bind h) fun x io1 H1 m1 a1 rm1 h1 => ?_⟩
  cases x with
  | true => exact PostG.of_ok rm1 h1
  | false => exact ⟨io1, r, m1, rs.mono a1, rm1, h1⟩
theorem r_one {op} (ha : PE X a (tE p W fa)) : PE X (.BoolOp op [a] pos) (tE p W fa) := pe_one ha
theorem r_and (ha : PE X a (tE p W fa)) (hb : PE X (.BoolOp .And (b :: rest) pos) (tE p W fb)) : PE X (.BoolOp .And (a :: b :: rest) pos) (tE p W (fAnd fa fb)) := by
  refine (pe_and ha hb).weak fun σ H Q ⟨io, r, m, rs, rm, h⟩ => ⟨io, r, m, rs, rm, PostG.mono (PostG.bind h) fun x io1 H1 m1 a1 rm1 h1 v rv => ?_⟩
  split at h1
  · rename_i k
    simp only [RV] at rv
    refine ⟨k, rv, ?_⟩
    cases k with
    | true => exact ⟨io1, r, m1, rs.mono a1, rm1, h1⟩
    | false => exact PostG.of_ok rm1 h1 _ (by simp [RV])
  · exact h1.elim
theorem r_or (ha : PE X a (tE p W fa)) (hb : PE X (.BoolOp .Or (b :: rest) pos) (tE p W fb)) : PE X (.BoolOp .Or (a :: b :: rest) pos) (tE p W (fOr fa fb)) := by
  refine (pe_or ha hb).weak fun σ H Q ⟨io, r, m, rs, rm, h⟩ => ⟨io, r, m, rs, rm, PostG.mono (PostG.bind h) fun x io1 H1 m1 a1 rm1 h1 v rv => ?_⟩
  split at h1
  · rename_i k
    simp only [RV] at rv
    refine ⟨k, rv, ?_⟩
    cases k with
    | true => exact PostG.of_ok rm1 h1 _ (by simp [RV])
    | false => exact ⟨io1, r, m1, rs.mono a1, rm1, h1⟩
  · exact h1.elim
end
theorem r_if (hc : PT X c (tT p W ft)) (ha : PE X a (tE p W fa)) (hb : PE X b (tE p W fb)) : PE X (.IfExp c a b pos) (tE p W (fIf ft fa fb)) := by
  refine (pe_ifExp hc ha hb).weak fun σ H Q ⟨io, r, m, rs, rm, h⟩ => ⟨io, r, m, rs, rm, PostG.mono (PostG.bind h) fun x io1 H1 m1 a1 rm1 h1 => ?_⟩
  cases x with
  | true => exact ⟨io1, r, m1, rs.mono a1, rm1, h1⟩
  | false => exact ⟨io1, r, m1, rs.mono a1, rm1, h1⟩
/-! ### arguments, displays -/
theorem a_nil : PA X [] (tAr p W aNil) := pa_nil.weak fun σ H Q ⟨io, r, m, rs, rm, h⟩ => PostG.of_ok rm h _ (by simp [RVs])
theorem a_cons (ha : PE X e (tE p W fa)) (hr : PA X es (tAr p W fr)) (hs : starEach (e :: es) X.env = (false, eval e X.env) :: starEach es X.env := by rfl) : PA X (e :: es) (tAr p W (aCons fa fr)) := by
  refine (pa_cons ha hr hs).weak fun σ H Q ⟨io, r, m, rs, rm, h⟩ => ⟨io, r, m, rs, rm, PostG.mono (PostG.bind h) fun x io1 H1 m1 a1 rm1 h1 v rv => ?_⟩
  refine ⟨io1, r, m1, rs.mono a1, rm1, PostG.mono (PostG.bind h1) fun xs io2 H2 m2 a2 rm2 h2 vs rvs => ?_⟩
  exact PostG.of_ok rm2 h2 _ (by simp only [RVs]; exact ⟨_, _, rfl, rv.mono a2, rvs⟩)
theorem r_tup {x1} (h : PA X es (tAr p W fr)) : PE X (.Tuple es x1 pos) (tE p W (fTup fr)) := by
  refine (pe_tup h).weak fun σ H Q ⟨io, r, m, rs, rm, h⟩ => ⟨io, r, m, rs, rm, PostG.mono (PostG.bind h) fun x io1 H1 m1 a1 rm1 h1 v rv => ?_⟩
  split at h1
  · rename_i hz
    exact ⟨by rw [← rv.length]; exact hz, PostV.tup rm1 (PostG.val (x := some _) h1) rv⟩
  · exact h1.elim
/-- fresh lists -/
theorem RM.add {io : Ad} {H : Hp} {D : Addr} {m : Sto} {xs : List PV} {vs : List V} (rm : RM p io H m) (hD : H D = none) (rv : RVs p io H xs vs) : Adv io H (io.add D) (upd H D (.lst vs)) ∧ RM p (io.add D) (upd H D (.lst vs)) (m ++ [.lst xs]) := by
  have hn := rm.notin hD
  have av : Adv io H (io.add D) (upd H D (.lst vs)) := by
    have l := Adv.laid (io := io) (o := .lst vs) hD
    exact ⟨⟨[D], rfl, fun a ha => by rw [List.mem_singleton.mp ha]; exact hD⟩, ⟨[], by simp [Ad.add], by simp⟩, l.tups, l.frzs, l.stay, l.dom⟩
  refine ⟨av, ?_, ?_, fun n o a h1 h2 => ?_, fun a ha => ?_⟩
  · show (io.ix ++ [D]).length = _
    simp [rm.len]
  · show (io.ix ++ [D]).Nodup
    rw [List.nodup_append]
    refine ⟨rm.nd, by simp, fun a ha b hb e => ?_⟩
    subst e
    rw [List.mem_singleton.mp hb] at ha
    exact hn (.inl ha)
  · have h2' : (io.ix ++ [D])[n]? = some a := h2
    by_cases hl : n < m.length
    · rw [List.getElem?_append_left hl] at h1
      rw [List.getElem?_append_left (by rw [rm.len]; exact hl)] at h2'
      refine RO.mono' av (rm.ob n o a h1 h2') (upd_ne fun z => ?_)
      rw [z] at h2'
      exact hn (.inl (List.mem_of_getElem? h2'))
    · rw [List.getElem?_append_right (by omega)] at h1
      rw [List.getElem?_append_right (by rw [rm.len]; omega)] at h2'
      have e0 : n - m.length = 0 := by
        have := (List.getElem?_eq_some_iff.mp h1).1
        simp at this
        omega
      rw [e0] at h1
      rw [rm.len, e0] at h2'
      simp at h1 h2'
      subst h1 h2'
      exact ⟨vs, upd_same, rv.mono av⟩
  · obtain ⟨h1, h2, h3⟩ := rm.sep a ha
    have ne : a ≠ D := fun z => h2 (z ▸ hD)
    refine ⟨fun hc => ?_, by rw [upd_ne ne]; exact h2, by rw [upd_ne ne]; exact h3⟩
    have hc' : a ∈ io.ix ++ [D] := hc
    rcases List.mem_append.mp hc' with z | z
    · exact h1 z
    · exact ne (List.mem_singleton.mp z)
theorem l_disp (h : PA X es (tAr p W fr)) : PE X (.List es pos) (tL p W (lDisp fr)) := by
  refine (pe_lst h).weak fun σ H Q ⟨io, r, m, rs, rm, h⟩ => ⟨io, r, m, rs, rm, PostG.mono (PostG.bind h) fun x io1 H1 m1 a1 rm1 h1 v rv => ?_⟩
  split at h1
  · rename_i hz
    refine ⟨by rw [← rv.length]; exact hz, fun D hD => ?_⟩
    obtain ⟨av, rm2⟩ := RM.add (D := D) rm1 hD rv
    exact h1 io1 (upd H1 D (.lst v)) (.laid hD) (rm1.laid hD) D v upd_same (rm1.notin hD) (rv.mono (.laid hD)) (a1.trans av) rm2
  · exact h1.elim
theorem r_lst (h : PE X e (tL p W fr)) : PE X e (tE p W (fLst fr)) := by
  refine h.weak fun σ H Q ⟨io, r, m, rs, rm, h⟩ => ⟨io, r, m, rs, rm, PostG.mono (PostG.bind h) fun x io1 H1 m1 a1 rm1 h1 D vs hD hn rv _ _ => ?_⟩
  exact PostG.of_ok rm1 h1 _ (by simp only [RV]; exact ⟨D, vs, rfl, hD, hn, rv⟩)
theorem r_alloc (h : PE X e (tL p W fr)) : PE X e (tE p W (fAlloc fr)) := by
  refine h.weak fun σ H Q ⟨io, r, m, rs, rm, h⟩ => ⟨io, r, m, rs, rm, ?_⟩
  unfold fAlloc at h
  match e : fr r m, h with
  | none, h => exact h
  | some (.ex c fs, m'), h => exact h
  | some (.ok xs, m'), h =>
    intro io1 H1 a1 rm1 D vs hD hn rv av rm2
    refine h (io1.add D) H1 av rm2 _ ?_
    simp only [RV]
    refine ⟨D, rfl, ?_⟩
    show (io1.ix ++ [D])[m'.length]? = some D
    rw [← rm1.len]
    simp
end
end Mini
namespace Mini
open PySem L2
theorem char_inj {a b : Char} (h : a.toNat = b.toNat) : a = b := by
  apply Char.ext
  apply UInt32.toNat_inj.mp
  exact h
theorem chars_inj : ∀ {l m : List Char}, l.map Char.toNat = m.map Char.toNat → l = m
  | [], [], _ => rfl
  | [], _ :: _, h => by simp at h
  | _ :: _, [], h => by simp at h
  | a :: l, b :: m, h => by
    simp only [List.map_cons, List.cons.injEq] at h
    rw [char_inj h.1, chars_inj h.2]
theorem ofS_inj {a b : String} (h : Str.ofString a = Str.ofString b) : a = b := by
  rw [Str.ofString_eq_toList, Str.ofString_eq_toList] at h
  have h1 : (a.toList.map Char.toNat).toArray = (b.toList.map Char.toNat).toArray := congrArg Str.cps h
  have h2 : a.toList.map Char.toNat = b.toList.map Char.toNat := by
    have := congrArg Array.toList h1
    simpa using this
  exact String.toList_injective (chars_inj h2)
theorem ofS_beq (a b : String) : (Str.ofString a == Str.ofString b) = (a == b) := by
  by_cases e : a = b
  · subst e; simp
  · have : Str.ofString a ≠ Str.ofString b := fun h => e (ofS_inj h)
    rw [beq_eq_false_iff_ne.mpr e, beq_eq_false_iff_ne.mpr this]
section
variable {p : Par} {io io' : Ad} {H H' : Hp} {m : Sto}
theorem RFs.none_of {k : String} : ∀ {fs : List (String × PV)} {vs : List (Str × V)}, RFs p io H fs vs → fs.lookup k = none → vs.lookup (Str.ofString k) = none
  | [], _, h, _ => by simp only [RFs] at h; subst h; rfl
  | (j, x) :: fs, _, h, e => by
    simp only [RFs] at h
    obtain ⟨v, r, rfl, _, h2⟩ := h
    rw [List.lookup_cons] at e ⊢
    rw [ofS_beq]
    split at e
    · cases e
    · exact RFs.none_of h2 e
theorem RFs.some_of {k : String} {x : PV} : ∀ {fs : List (String × PV)} {vs : List (Str × V)}, RFs p io H fs vs → fs.lookup k = some x → ∃ v, vs.lookup (Str.ofString k) = some v ∧ RV p io H x v
  | [], _, _, e => by cases e
  | (j, y) :: fs, _, h, e => by
    simp only [RFs] at h
    obtain ⟨v, r, rfl, h1, h2⟩ := h
    rw [List.lookup_cons] at e ⊢
    rw [ofS_beq]
    split at e
    · cases e
      exact ⟨v, rfl, h1⟩
    · exact RFs.some_of h2 e
def putP (k : String) (x : PV) : List (String × PV) → List (String × PV)
  | [] => [(k, x)]
  | (j, y) :: r => if j = k then (j, x) :: r else (j, y) :: putP k x r
theorem putF_nil (f : Str) (v : V) : putF f v [] = [(f, v)] := rfl
theorem putF_cons (f g : Str) (v w : V) (r : List (Str × V)) : putF f v ((g, w) :: r) = if g = f then (g, v) :: r else (g, w) :: putF f v r := rfl
theorem RFs.put {k : String} {x : PV} {v : V} (hx : RV p io H x v) : ∀ {fs : List (String × PV)} {vs : List (Str × V)}, RFs p io H fs vs → RFs p io H (putP k x fs) (putF (Str.ofString k) v vs)
  | [], _, h => by
    simp only [RFs] at h
    subst h
    simp only [putP, putF_nil, RFs]
    exact ⟨v, _, rfl, hx, rfl⟩
  | (j, y) :: fs, _, h => by
    simp only [RFs] at h
    obtain ⟨w, r, rfl, h1, h2⟩ := h
    simp only [putP, putF_cons]
    by_cases e : j = k
    · subst e
      rw [if_pos rfl, if_pos rfl]
      simp only [RFs]
      exact ⟨v, r, rfl, hx, h2⟩
    · rw [if_neg e, if_neg fun z => e (ofS_inj z)]
      simp only [RFs]
      exact ⟨w, _, rfl, h1, RFs.put hx h2⟩
theorem RFs.length : ∀ {fs : List (String × PV)} {vs : List (Str × V)}, RFs p io H fs vs → fs.length = vs.length
  | [], _, h => by simp only [RFs] at h; subst h; rfl
  | (j, y) :: fs, _, h => by
    simp only [RFs] at h
    obtain ⟨w, r, rfl, h1, h2⟩ := h
    simp [RFs.length h2]
theorem insOf_rel {x : PV} {n c : Nat} {fs : List (String × PV)} {v : V} (rm : RM p io H m) (e : insOf x m = some (n, c, fs)) (rv : RV p io H x v) :
    x = .ref n ∧ m[n]? = some (.ins c fs) ∧ ∃ a dx vfs, v = .ref a ∧ io.ix[n]? = some a ∧ H a = some (.ins (p.FA c) dx vfs) ∧ RFs p io H fs vfs := by
  cases x with
  | ref k =>
    simp only [RV] at rv
    obtain ⟨a, rfl, ha⟩ := rv
    match q : m[k]?, e with
    | some (.ins c' fs'), e =>
      simp only [insOf, q, Option.some.injEq, Prod.mk.injEq] at e
      obtain ⟨rfl, rfl, rfl⟩ := e
      obtain ⟨dx, vfs, h1, h2⟩ := (show RO p io H (.ins c' fs') a from rm.ob k _ a q ha)
      exact ⟨rfl, q, a, dx, vfs, rfl, ha, h1, h2⟩
    | some (.lst ys), e => simp [insOf, q] at e
    | some (.rol ys), e => simp [insOf, q] at e
    | none, e => simp [insOf, q] at e
  | _ => simp [insOf] at e
/-- an object of the store is changed -/
theorem Adv.set {n : Nat} {a : Addr} {o' : HO} (rm : RM p io H m) (hn : io.ix[n]? = some a) (nf : ∀ o u, H a ≠ some (.frz o u)) : Adv io H io (upd H a o') := by
  have ha : io.has a := .inl (List.mem_of_getElem? hn)
  refine ⟨⟨[], by simp, by simp⟩, ⟨[], by simp, by simp⟩, fun b xs e => ?_, fun b o u e => ?_, fun b o e hb => ?_, fun b e => ?_⟩
  · rw [upd_ne fun (z : b = a) => rm.tupOut e (by rw [z]; exact ha)]; exact e
  · rw [upd_ne fun (z : b = a) => nf o u (by rw [← z]; exact e)]; exact e
  · rw [upd_ne fun (z : b = a) => hb (by rw [z]; exact List.mem_of_getElem? hn)]; exact e
  · by_cases hb : b = a
    · rw [hb, upd_same] at e; cases e
    · rw [upd_ne hb] at e; exact e
theorem RM.set {n : Nat} {a : Addr} {o' : HO} {ob : Ob} (rm : RM p io H m) (hn : io.ix[n]? = some a) (av : Adv io H io (upd H a o')) (hob : RO p io (upd H a o') ob a) : RM p io (upd H a o') (m.set n ob) := by
  refine ⟨by rw [rm.len, List.length_set], rm.nd, fun k o b h1 h2 => ?_, fun b hb => ?_⟩
  · by_cases hk : k = n
    · subst hk
      rw [hn] at h2
      cases h2
      have hl : k < m.length := by rw [← rm.len]; exact (List.getElem?_eq_some_iff.mp hn).1
      rw [List.getElem?_set_self hl] at h1
      cases h1
      exact hob
    · rw [List.getElem?_set_ne (Ne.symm hk)] at h1
      refine RO.mono' av (rm.ob k o b h1 h2) (upd_ne fun z => hk ?_)
      subst z
      obtain ⟨h3, e3⟩ := List.getElem?_eq_some_iff.mp h2
      obtain ⟨h4, e4⟩ := List.getElem?_eq_some_iff.mp hn
      exact (List.getElem_inj rm.nd).mp (e3.trans e4.symm)
  · obtain ⟨h1, h2, h3⟩ := rm.sep b hb
    have ne : b ≠ a := fun z => h1 (z ▸ List.mem_of_getElem? hn)
    exact ⟨h1, by rw [upd_ne ne]; exact h2, by rw [upd_ne ne]; exact h3⟩
end
/-! ### defs, methods, classes: what a call does -/
/-- a def's meaning: nothing is raised -/
abbrev Fn := List PV → Sto → Option (PV × Sto)
def upS (x : Option (PV × Sto)) : Res PV := match x with
  | some (v, m) => some (.ok v, m)
  | none => none
def PostF (p : Par) (io : Ad) (H : Hp) (r : Option (PV × Sto)) (Q : VK) : Prop := match r with
  | none => False
  | some (x, m) => ∀ io' H' v, Adv io H io' H' → RM p io' H' m → RV p io' H' x v → Q v H'
def spF (p : Par) (n : Nat) (F : Fn) : Sp := fun vs H Q _ => ∃ io m xs, RM p io H m ∧ RVs p io H xs vs ∧ xs.length = n ∧ PostF p io H (F xs m) Q
/-- the def x of the module: its level, its parameters, its meaning -/
structure FnAt (p : Par) (P : Program) (w : World) (mg : Str → Option Value) (base : Heap) (x : Str) (k n : Nat) (F : Fn) : Prop where
  ex : ∃ f fd ps, mg x = some (.ref f) ∧ FnOk P w p.K mg base CX0 k f fd ps (spF p n F) ∧ PySem.W.keepIn p.K (.ref f) = true ∧ Binds p.K fd ps []
/-- the method mth of the class c: self is its first parameter -/
structure MethAt (p : Par) (P : Program) (w : World) (mg : Str → Option Value) (base : Heap) (c : Nat) (mth : String) (k n : Nat) (F : Fn) : Prop where
  cl : Cls p.K (p.FA c)
  ex : ∃ f fd ps, Meth p.K (p.FA c) (Str.ofString mth) f ∧ FnOk P w p.K mg base CX0 k f fd ps (spF p n F) ∧ Binds p.K fd ps []
/-- the class x is the c-th -/
structure MakeAt (p : Par) (P : Program) (w : World) (mg : Str → Option Value) (base : Heap) (x : Str) (c : Nat) (k n : Nat) (F : Fn) : Prop where
  ex : ∃ f fd ps, mg x = some (.ref (p.FA c)) ∧ Mk p.K (p.FA c) f ∧ FnOk P w p.K mg base CX0 k f fd ps (spF p n F) ∧ Binds p.K fd ps []
def fCl (n : Nat) (F : Fn) (fa : Fa) : Fe := fun r m => (fa r m).bind fun xs m1 => if xs.length = n then upS (F xs m1) else none
def fMt (c : Nat) (mth : String) (n : Nat) (F : Fn) (fo : Fe) (fa : Fa) : Fe := fun r m => (fo r m).bind fun x m1 => match insOf x m1 with
  | some (_, c', fs) => if c' = c ∧ fs.lookup mth = none then (fa r m1).bind fun xs m2 => if xs.length + 1 = n then upS (F (x :: xs) m2) else none else none
  | none => none
def fMk (c n : Nat) (F : Fn) (fa : Fa) : Fe := fun r m => (fa r m).bind fun xs m1 => if xs.length + 1 = n then match F (.ref m1.length :: xs) (m1 ++ [.ins c []]) with
  | some (.non, m2) => some (.ok (.ref m1.length), m2)
  | _ => none else none
def vFl (c : Nat) (k : String) (x : PV) (m : Sto) : Option PV := match insOf x m with
  | some (_, c', fs) => if c' = c then fs.lookup k else none
  | none => none
section
variable {p : Par} {W : WX} {X : Cx} {pos pos' apos q : Pos} {a b e o value : Expr} {es : List Expr} {fa fb fo : Fe} {fr : Fa} {k n c : Nat} {F : Fn} {x : Str}
theorem upS_post {io : Ad} {H : Hp} {σ : St} {r : Option (PV × Sto)} {Q : VK} (h : PostG p W io H σ (upS r) fun x io' H' _ => ∀ v, RV p io' H' x v → Q v H') : PostF p io H r Q := by
  cases r with
  | none => exact h
  | some y => exact fun io' H' v a rm rv => h io' H' a rm v rv
theorem r_call (g : Good p W X) (G : FnAt p X.prog X.w X.mg X.base x k n F) (hr : Room k X.A) (hg : Gl X x) (ha : PA X (e :: es) (tAr p W fr)) (hdb : (x == ("__debug__" : Str)) = false := by decide)
    (he : starEach (e :: es) X.env = (false, eval e X.env) :: starEach es X.env := by rfl) (hpl : (backTo pos (starEach es X.env)).any (·.1) = false := by rfl) : PE X (.Call (.Name x q) (e :: es) [] pos) (tE p W (fCl n F fr)) := by
  obtain ⟨f, fd, ps, hm, ok, hk, hb⟩ := G.ex
  rw [← g.hK] at ok hk hb
  refine (pe_call ok hr hg hm hk hb .nil pass0 ha hdb he hpl).weak fun σ H Q ⟨io, r, m, rs, rm, h⟩ => ⟨io, r, m, rs, rm, PostG.mono (PostG.bind h) fun xs io1 H1 m1 a1 rm1 h1 vs rvs => ?_⟩
  split at h1
  · rename_i hl
    refine ⟨io1, m1, xs, rm1, by rw [List.append_nil]; exact rvs, hl, upS_post h1⟩
  · exact h1.elim
theorem r_call0 (g : Good p W X) (G : FnAt p X.prog X.w X.mg X.base x k 0 F) (hr : Room k X.A) (hg : Gl X x) (hdb : (x == ("__debug__" : Str)) = false := by decide) : PE X (.Call (.Name x q) [] [] pos) (tE p W (fCl 0 F aNil)) := by
  obtain ⟨f, fd, ps, hm, ok, hk, hb⟩ := G.ex
  rw [← g.hK] at ok hk hb
  refine (pe_call0 ok hr hg hm hk hb .nil pass0 hdb).weak fun σ H Q ⟨io, r, m, rs, rm, h⟩ => ?_
  exact ⟨io, m, [], rm, by simp [RVs], rfl, upS_post (by simpa [fCl, aNil] using h)⟩
theorem r_meth {mth : String} {pl : Sem Bool} (g : Good p W X) (G : MethAt p X.prog X.w X.mg X.base c mth k n F) (hr : Room k X.A) (ho : PE X o (tE p W fo)) (ha : PA X (e :: es) (tAr p W fr))
    (hst : starEach (e :: es) X.env = (false, eval e X.env) :: starEach es X.env := by rfl) (hpl : (backTo pos (starEach es X.env)).any (·.1) = false := by rfl)
    (ht : eval (.Call (.Attribute o (Str.ofString mth) apos) (e :: es) [] pos) X.env = (do
      let ov ← eval o X.env
      standAt apos.atName
      let (f, first) ← holding [ov] (getMethod ov (Str.ofString mth) pl)
      callWith pos f first (backTo pos (starEach (e :: es) X.env)) (backToKw pos (keywordEach [] X.env))) := by rfl) :
    PE X (.Call (.Attribute o (Str.ofString mth) apos) (e :: es) [] pos) (tE p W (fMt c mth n F fo fr)) := by
  obtain ⟨f, fd, ps, hm, ok, hb⟩ := G.ex
  have cl := G.cl
  rw [← g.hK] at ok hm hb cl
  refine (pe_meth ho cl hm ok hr hb .nil pass0 ha hst hpl ht).weak fun σ H Q ⟨io, r, m, rs, rm, h⟩ => ⟨io, r, m, rs, rm, PostG.mono (PostG.bind h) fun y io1 H1 m1 a1 rm1 h1 v rv => ?_⟩
  split at h1
  · rename_i n' c' fs hi
    split at h1
    · rename_i hc
      obtain ⟨rfl, hl⟩ := hc
      obtain ⟨_, _, a, dx, vfs, ev, ea, hH, rf⟩ := insOf_rel rm1 hi rv
      refine ⟨a, dx, vfs, ev, hH, rf.none_of hl, io1, r, m1, rs.mono a1, rm1, PostG.mono (PostG.bind h1) fun xs io2 H2 m2 a2 rm2 h2 vs rvs => ?_⟩
      split at h2
      · rename_i hl2
        refine ⟨io2, m2, y :: xs, rm2, ?_, by simpa using hl2, upS_post h2⟩
        simp only [RVs, List.append_nil]
        exact ⟨v, vs, rfl, rv.mono a2, rvs⟩
      · exact h2.elim
    · exact h1.elim
  · exact h1.elim
theorem r_meth0 {mth : String} {pl : Sem Bool} (g : Good p W X) (G : MethAt p X.prog X.w X.mg X.base c mth k n F) (hr : Room k X.A) (ho : PE X o (tE p W fo))
    (ht : eval (.Call (.Attribute o (Str.ofString mth) apos) [] [] pos) X.env = (do
      let ov ← eval o X.env
      standAt apos.atName
      let (f, first) ← holding [ov] (getMethod ov (Str.ofString mth) pl)
      callWith pos f first (backTo pos (starEach [] X.env)) (backToKw pos (keywordEach [] X.env))) := by rfl) :
    PE X (.Call (.Attribute o (Str.ofString mth) apos) [] [] pos) (tE p W (fMt c mth n F fo aNil)) := by
  obtain ⟨f, fd, ps, hm, ok, hb⟩ := G.ex
  have cl := G.cl
  rw [← g.hK] at ok hm hb cl
  refine (pe_meth0 ho cl hm ok hr hb .nil pass0 ht).weak fun σ H Q ⟨io, r, m, rs, rm, h⟩ => ⟨io, r, m, rs, rm, PostG.mono (PostG.bind h) fun y io1 H1 m1 a1 rm1 h1 v rv => ?_⟩
  split at h1
  · rename_i n' c' fs hi
    split at h1
    · rename_i hc
      obtain ⟨rfl, hl⟩ := hc
      obtain ⟨_, _, a, dx, vfs, ev, ea, hH, rf⟩ := insOf_rel rm1 hi rv
      refine ⟨a, dx, vfs, ev, hH, rf.none_of hl, io1, m1, [y], rm1, ?_, ?_⟩
      · simp only [RVs, List.append_nil]
        exact ⟨v, [], rfl, rv, rfl⟩
      · simp only [aNil, Res.bind, List.length_nil, Nat.zero_add] at h1
        split at h1
        · rename_i hn
          exact ⟨by simpa using hn, upS_post h1⟩
        · exact h1.elim
    · exact h1.elim
  · exact h1.elim
theorem r_make (g : Good p W X) (G : MakeAt p X.prog X.w X.mg X.base x c k n F) (hr : Room (k + 1) X.A) (hg : Gl X x) (ha : PA X (e :: es) (tAr p W fr)) (hdb : (x == ("__debug__" : Str)) = false := by decide)
    (he : starEach (e :: es) X.env = (false, eval e X.env) :: starEach es X.env := by rfl) (hpl : (backTo pos (starEach es X.env)).any (·.1) = false := by rfl) : PE X (.Call (.Name x q) (e :: es) [] pos) (tE p W (fMk c n F fr)) := by
  obtain ⟨f, fd, ps, hm, mk, ok, hb⟩ := G.ex
  rw [← g.hK] at ok mk hb
  refine (pe_make mk ok hr hg hm hb .nil pass0 ha hdb he hpl).weak fun σ H Q ⟨io, r, m, rs, rm, h⟩ => ⟨io, r, m, rs, rm, PostG.mono (PostG.bind h) fun xs io1 H1 m1 a1 rm1 h1 vs rvs y dx hy hdx ne => ?_⟩
  split at h1
  case isFalse => exact h1.elim
  rename_i hl
  -- the dict of the instance, then the instance
  have v1 : Adv io1 H1 io1 (upd H1 dx (.own y)) := .laid hdx
  have rm2 : RM p io1 (upd H1 dx (.own y)) m1 := rm1.laid hdx
  have hy2 : upd H1 dx (.own y) y = none := by rw [upd_ne (Ne.symm ne)]; exact hy
  have hn := rm2.notin hy2
  have v2 : Adv io1 (upd H1 dx (.own y)) (io1.add y) (upd (upd H1 dx (.own y)) y (.ins (p.FA c) dx [])) := by
    have l := Adv.laid (io := io1) (o := .ins (p.FA c) dx []) hy2
    exact ⟨⟨[y], rfl, fun a ha => by rw [List.mem_singleton.mp ha]; exact hy2⟩, ⟨[], by simp [Ad.add], by simp⟩, l.tups, l.frzs, l.stay, l.dom⟩
  have rm3 : RM p (io1.add y) (upd (upd H1 dx (.own y)) y (.ins (p.FA c) dx [])) (m1 ++ [.ins c []]) := by
    refine ⟨?_, ?_, fun n o a h1 h2 => ?_, fun a ha => ?_⟩
    · show (io1.ix ++ [y]).length = _
      simp [rm2.len]
    · show (io1.ix ++ [y]).Nodup
      rw [List.nodup_append]
      refine ⟨rm2.nd, by simp, fun a ha b hb e => ?_⟩
      subst e
      rw [List.mem_singleton.mp hb] at ha
      exact hn (.inl ha)
    · have h2' : (io1.ix ++ [y])[n]? = some a := h2
      by_cases hl : n < m1.length
      · rw [List.getElem?_append_left hl] at h1
        rw [List.getElem?_append_left (by rw [rm2.len]; exact hl)] at h2'
        refine RO.mono' v2 (rm2.ob n o a h1 h2') (upd_ne fun z => ?_)
        rw [z] at h2'
        exact hn (.inl (List.mem_of_getElem? h2'))
      · rw [List.getElem?_append_right (by omega)] at h1
        rw [List.getElem?_append_right (by rw [rm2.len]; omega)] at h2'
        have e0 : n - m1.length = 0 := by
          have := (List.getElem?_eq_some_iff.mp h1).1
          simp at this
          omega
        rw [e0] at h1
        rw [rm2.len, e0] at h2'
        simp at h1 h2'
        subst h1 h2'
        exact ⟨dx, [], upd_same, by simp [RFs]⟩
    · obtain ⟨h1, h2, h3⟩ := rm2.sep a ha
      have ne : a ≠ y := fun z => h2 (z ▸ hy2)
      refine ⟨fun hc => ?_, by rw [upd_ne ne]; exact h2, by rw [upd_ne ne]; exact h3⟩
      have hc' : a ∈ io1.ix ++ [y] := hc
      rcases List.mem_append.mp hc' with z | z
      · exact h1 z
      · exact ne (List.mem_singleton.mp z)
  have av := v1.trans v2
  refine ⟨io1.add y, m1 ++ [.ins c []], .ref m1.length :: xs, rm3, ?_, by simpa using hl, ?_⟩
  · simp only [RVs, List.append_nil]
    refine ⟨.ref y, vs, rfl, ?_, rvs.mono av⟩
    simp only [RV]
    refine ⟨y, rfl, ?_⟩
    show (io1.ix ++ [y])[m1.length]? = some y
    rw [← rm1.len]
    simp
  · split at h1
    case h_2 => exact h1.elim
    case h_1 m2 e =>
      rw [e]
      intro io' H' v a2 rm' rv
      simp only [RV] at rv
      refine ⟨rv, ?_⟩
      refine h1 io' H' (av.trans a2) rm' _ ?_
      simp only [RV]
      refine ⟨y, rfl, a2.get ?_⟩
      show (io1.ix ++ [y])[m1.length]? = some y
      rw [← rm1.len]
      simp
/-! ### attributes -/
theorem r_fld {fld : String} (g : Good p W X) (cl : Cls p.K (p.FA c)) (hn : NoAttr p.K (p.FA c) (Str.ofString fld)) (he : PE X e (tE p W fa)) (hb : attributeBase e (Str.ofString fld) X.env (eval e X.env) = eval e X.env := by rfl) :
    PE X (.Attribute e (Str.ofString fld) pos) (tE p W (f1 (vFl c fld) fa)) := by
  rw [← g.hK] at cl hn
  refine (pe_fld he hb).weak fun σ H Q ⟨io, r, m, rs, rm, h⟩ => ⟨io, r, m, rs, rm, PostG.mono (PostG.bind h) fun y io1 H1 m1 a1 rm1 h1 v rv => ?_⟩
  have q := h1.val
  unfold vFl at q
  split at q
  · rename_i n' c' fs hi
    split at q
    · rename_i hc
      subst hc
      obtain ⟨_, _, a, dx, vfs, ev, ea, hH, rf⟩ := insOf_rel rm1 hi rv
      match e : fs.lookup fld, q with
      | some z, q =>
        obtain ⟨w, h3, h4⟩ := rf.some_of e
        exact ⟨a, _, dx, vfs, w, ev, hH, cl, hn, h3, q.same rm1 h4⟩
    · exact q.elim
  · exact q.elim
end
end Mini
namespace Mini
open PySem L2
/-! ### statements -/
def sNil : Fs := fun r m => some (.ok (.next r), m)
def sSeq (s t : Fs) : Fs := fun r m => (s r m).bind fun fl m1 => match fl with
  | .next r' => t r' m1
  | fl => some (.ok fl, m1)
def sIf (ft : Ft) (s t : Fs) : Fs := fun r m => (ft r m).bind fun b m1 => if b then s r m1 else t r m1
def sRet (fe : Fe) : Fs := fun r m => (fe r m).bind fun x m1 => some (.ok (.ret x), m1)
def sRetN : Fs := fun _ m => some (.ok (.ret .non), m)
def sDrop (fe : Fe) : Fs := fun r m => (fe r m).bind fun _ m1 => some (.ok (.next r), m1)
def sBrk : Fs := fun r m => some (.ok (.brk r), m)
def sCont : Fs := fun r m => some (.ok (.cont r), m)
def sNever : Fs := fun _ _ => none
/-- targets -/
inductive Tg where
  | nm (i : Nat) | tp (ts : List Tg)
mutual
def Tg.put : Tg → PV → Env → Option Env
  | .nm i, x, r => some (r.set i (some x))
  | .tp ts, x, r => match x with
    | .tup xs => Tg.puts ts xs r
    | _ => none
def Tg.puts : List Tg → List PV → Env → Option Env
  | [], [], r => some r
  | t :: ts, x :: xs, r => match Tg.put t x r with
    | some r' => Tg.puts ts xs r'
    | none => none
  | _, _, _ => none
end
mutual
def Tg.slots : Tg → List Nat
  | .nm i => [i]
  | .tp ts => Tg.slotss ts
def Tg.slotss : List Tg → List Nat
  | [] => []
  | t :: ts => Tg.slots t ++ Tg.slotss ts
end
def sAsg (tg : Tg) (fe : Fe) : Fs := fun r m => (fe r m).bind fun x m1 => match tg.put x r with
  | some r' => some (.ok (.next r'), m1)
  | none => none
/-- a, b = e1, e2: stored from the right, no tuple -/
def sPar (is : List Nat) (fa : Fa) : Fs := fun r m => (fa r m).bind fun xs m1 => if xs.length = is.length then some (.ok (.next ((is.zip xs).foldl (fun r q => r.set q.1 (some q.2)) r)), m1) else none
def sFld (c : Nat) (fld : String) (fo fe : Fe) : Fs := fun r m => (fe r m).bind fun x m1 => (fo r m1).bind fun o m2 => match insOf o m2 with
  | some (n, c', fs) => if c' = c ∧ fs.length < 900 then some (.ok (.next r), m2.set n (.ins c (putP fld x fs))) else none
  | none => none
def sFldAug (c : Nat) (fld : String) (g : PV → PV → Sto → Option PV) (fo fe : Fe) : Fs := fun r m => (fo r m).bind fun o m1 => match insOf o m1 with
  | some (_, c', fs) => if c' = c then match fs.lookup fld with
    | some x => (fe r m1).bind fun y m2 => match g x y m2 with
      | some z => match insOf o m2 with
        | some (n, c'', fs') => if c'' = c ∧ fs'.length < 900 then some (.ok (.next r), m2.set n (.ins c (putP fld z fs'))) else none
        | none => none
      | none => none
    | none => none else none
  | none => none
def sAug (i : Nat) (g : PV → PV → Sto → Option PV) (fe : Fe) : Fs := fun r m => match r[i]? with
  | some (some x) => (fe r m).bind fun y m1 => match g x y m1 with
    | some z => some (.ok (.next (r.set i (some z))), m1)
    | none => none
  | _ => none
/-- xs[i] = e -/
def lstOf (x : PV) (m : Sto) : Option (Nat × List PV) := match x with
  | .ref n => match m[n]? with
    | some (.lst xs) => some (n, xs)
    | _ => none
  | _ => none
def sSetIx (fo fi fe : Fe) : Fs := fun r m => (fe r m).bind fun x m1 => (fo r m1).bind fun o m2 => (fi r m2).bind fun i m3 => match lstOf o m3, i with
  | some (n, xs), .int k => match ixN xs.length k with
    | some j => some (.ok (.next r), m3.set n (.lst (xs.set j x)))
    | none => none
  | _, _ => none
/-- xs[i] op= e -/
def sAugIx (g : PV → PV → Sto → Option PV) (fo fi fe : Fe) : Fs := fun r m => (fo r m).bind fun o m1 => (fi r m1).bind fun i m2 => match rdL o m2, i with
  | some xs, .int k => match atI xs k with
    | some x => (fe r m2).bind fun y m3 => match g x y m3 with
      | some z => match lstOf o m3 with
        | some (n, ys) => match ixN ys.length k with
          | some j => some (.ok (.next r), m3.set n (.lst (ys.set j z)))
          | none => none
        | none => none
      | none => none
    | none => none
  | _, _ => none
section
variable {p : Par} {W : WX} {X : Cx} {pos pos' apos q : Pos} {a b e o i c value : Expr} {es : List Expr} {st : Stmt} {sts sts' : List Stmt} {fa fb fo fi fe : Fe} {fr : Fa} {ft : Ft} {s t : Fs}
theorem tS.intro {f : Fs} {D : Ends} {σ : St} {H : Hp} {io : Ad} {r : Env} {m : Sto} (rs : RS p io H r σ) (rm : RM p io H m) (h : PostS p W io H (f r m) D) : tS p W f D σ H := ⟨io, r, m, rs, rm, h⟩
theorem ss_nil : PSs X [] (tS p W sNil) := pss_nil.weak fun D σ H ⟨io, r, m, rs, rm, h⟩ => h io H σ (.refl _ _) rm rs
theorem seq_weak {D : Ends} {σ : St} {H : Hp} (h : tS p W (sSeq s t) D σ H) : tSeq (tS p W s) (tS p W t) D σ H := by
  obtain ⟨io, r, m, rs, rm, h⟩ := h
  refine ⟨io, r, m, rs, rm, ?_⟩
  unfold sSeq at h
  match e : s r m, h with
  | none, h => exact h
  | some (.ex c fs, m'), h => exact h
  | some (.ok (.next r'), m'), h => exact fun io' H' σ' a rm' rs' => ⟨io', r', m', rs', rm', PostS.adv a h⟩
  | some (.ok (.brk r'), m'), h => exact h
  | some (.ok (.cont r'), m'), h => exact h
  | some (.ok (.ret x), m'), h => exact h
theorem ss_cons (h1 : PS X st (tS p W s)) (h2 : PSs X sts (tS p W t)) : PSs X (st :: sts) (tS p W (sSeq s t)) := (pss_cons h1 h2).weak fun _ _ _ => seq_weak
theorem ss_one (h1 : PS X st (tS p W s)) : PSs X [st] (tS p W s) := pss_one h1
theorem s_if (hc : PT X c (tT p W ft)) (ha : PSs X sts (tS p W s)) (hb : PSs X sts' (tS p W t)) : PS X (.If c sts sts' pos) (tS p W (sIf ft s t)) := by
  refine (ps_if hc ha hb).weak fun D σ H ⟨io, r, m, rs, rm, h⟩ => ⟨io, r, m, rs, rm, PostG.mono (PostS.bind h) fun x io1 H1 m1 a1 rm1 h1 => ?_⟩
  cases x with
  | true => exact ⟨io1, r, m1, rs.mono a1, rm1, h1⟩
  | false => exact ⟨io1, r, m1, rs.mono a1, rm1, h1⟩
theorem s_ret (he : PE X e (tE p W fe)) : PS X (.Return (some e) pos) (tS p W (sRet fe)) := by
  refine (ps_ret he).weak fun D σ H ⟨io, r, m, rs, rm, h⟩ => ⟨io, r, m, rs, rm, PostG.mono (PostS.bind h) fun x io1 H1 m1 a1 rm1 h1 v rv => ?_⟩
  exact h1 io1 H1 v (.refl _ _) rm1 rv
theorem s_retN : PS X (.Return none pos) (tS p W sRetN) := ps_retN.weak fun D σ H ⟨io, r, m, rs, rm, h⟩ => h io H .non (.refl _ _) rm (by simp [RV])
theorem s_expr (he : PE X e (tE p W fe)) (hs : swapsWith e none pos.line X.env = pure false := by rfl) : PS X (.Expr e pos) (tS p W (sDrop fe)) := by
  refine (ps_expr he hs).weak fun D σ H ⟨io, r, m, rs, rm, h⟩ => ⟨io, r, m, rs, rm, PostG.mono (PostS.bind h) fun x io1 H1 m1 a1 rm1 h1 v rv => ?_⟩
  exact h1 io1 H1 σ (.refl _ _) rm1 (rs.mono a1)
theorem s_pass : PS X (.Pass pos) (tS p W sNil) := ps_pass.weak fun D σ H ⟨io, r, m, rs, rm, h⟩ => h io H σ (.refl _ _) rm rs
theorem s_brk : PS X (.Break pos) (tS p W sBrk) := ps_break.weak fun D σ H ⟨io, r, m, rs, rm, h⟩ => h io H σ (.refl _ _) rm rs
theorem s_cont : PS X (.Continue pos) (tS p W sCont) := ps_continue.weak fun D σ H ⟨io, r, m, rs, rm, h⟩ => h io H σ (.refl _ _) rm rs
theorem s_never : PS X st (tS p W sNever) := ps_never.weak fun D σ H ⟨io, r, m, rs, rm, h⟩ => h
theorem RS.set {io : Ad} {H : Hp} {r : Env} {σ : St} {x : PV} {v : V} (rs : RS p io H r σ) (rv : RV p io H x v) (i : Nat) : RS p io H (r.set i (some x)) (σ.set i (some v)) := by
  refine ⟨by simp [rs.len], fun j y e => ?_⟩
  by_cases hj : i = j
  · subst hj
    by_cases hl : i < r.length
    · rw [List.getElem?_set_self hl] at e
      cases e
      exact ⟨v, List.getElem?_set_self (by rw [← rs.len]; exact hl), rv⟩
    · rw [List.getElem?_eq_none (by simpa using hl)] at e; cases e
  · rw [List.getElem?_set_ne hj] at e ⊢
    exact rs.at_ j y e
/-- a store to targets -/
def gT (p : Par) (tg : Tg) : TG := fun v σ H Q => ∃ io r m x, RS p io H r σ ∧ RM p io H m ∧ RV p io H x v ∧ match tg.put x r with
  | none => False
  | some r' => ∀ H' σ', Adv io H io H' → RM p io H' m → RS p io H' r' σ' → σ'.length = σ.length → (∀ j, j ∉ tg.slots → σ'[j]? = σ[j]?) → Q σ' H'
def gTs (p : Par) (ts : List Tg) : TGs := fun vs σ H Q => ∃ io r m xs, RS p io H r σ ∧ RM p io H m ∧ RVs p io H xs vs ∧ match Tg.puts ts xs r with
  | none => False
  | some r' => ∀ H' σ', Adv io H io H' → RM p io H' m → RS p io H' r' σ' → σ'.length = σ.length → (∀ j, j ∉ Tg.slotss ts → σ'[j]? = σ[j]?) → Q σ' H'
end
section
variable {p : Par} {W : WX} {X : Cx} {pos pos' apos q : Pos} {e : Expr} {es : List Expr} {tg : Tg} {ts : List Tg} {fe : Fe} {k : Nat}
end
end Mini
namespace L2
open PySem
theorem PG.weak {X : Cx} {e : Expr} {t t' : TG} (h : PG X e t) (w : ∀ v σ H Q, t' v σ H Q → t v σ H Q) : PG X e t' := ⟨fun pins s σ H v u Q I r q => h.run pins s σ H v u Q I r (w _ _ _ _ q)⟩
theorem PGs.weak {X : Cx} {e : List Expr} {t t' : TGs} (h : PGs X e t) (w : ∀ v σ H Q, t' v σ H Q → t v σ H Q) : PGs X e t' := ⟨fun pins s σ H v u Q I r q => h.run pins s σ H v u Q I r (w _ _ _ _ q)⟩
end L2
namespace Mini
open PySem L2
section
variable {p : Par} {W : WX} {X : Cx} {pos pos' apos q : Pos} {e : Expr} {es : List Expr} {tg : Tg} {ts : List Tg} {fe : Fe} {k : Nat}
theorem g_name {i : Nat} {x : Str} (g : Good p W X) (hi : X.N[i]? = some x) (hx : Loc X.env.scope x) (hf : X.fn x = true ∨ X.env.scope.names.lookup x = some .local := by first | exact .inl rfl | exact .inr rfl | assumption) : PG X (.Name x pos) (gT p (.nm i)) := by
  refine (pg_name g.nd hi hx hf).weak fun v σ H Q ⟨io, r, m, x, rs, rm, rv, h⟩ => ?_
  simp only [Tg.put] at h
  exact h H _ (.refl _ _) rm (rs.set rv i) (by simp) fun j hj => by
    simp only [Tg.slots, List.mem_singleton] at hj
    rw [List.getElem?_set_ne (Ne.symm hj)]
theorem gs_nil : PGs X [] (gTs p []) := pgs_nil.weak fun vs σ H Q ⟨io, r, m, xs, rs, rm, rv, h⟩ => by
  cases xs with
  | nil =>
    simp only [RVs] at rv
    simp only [Tg.puts] at h
    exact ⟨rv, h H σ (.refl _ _) rm rs rfl fun _ _ => rfl⟩
  | cons x xs => simp [Tg.puts] at h
theorem gs_cons (h1 : PG X e (gT p tg)) (h2 : PGs X es (gTs p ts)) (hs : (assignEach (e :: es) X.env).map (·.2) = assign e X.env :: (assignEach es X.env).map (·.2) := by rfl) : PGs X (e :: es) (gTs p (tg :: ts)) := by
  refine (pgs_cons h1 h2 hs).weak fun vs σ H Q ⟨io, r, m, xs, rs, rm, rv, h⟩ => ?_
  cases xs with
  | nil => simp [Tg.puts] at h
  | cons x xs =>
    simp only [RVs] at rv
    obtain ⟨v, vr, rfl, r1, r2⟩ := rv
    simp only [Tg.puts] at h
    refine ⟨v, vr, rfl, io, r, m, x, rs, rm, r1, ?_⟩
    match e : tg.put x r, h with
    | none, h => exact h
    | some r', h =>
      intro H' σ' a1 rm1 rs1 l1 n1
      refine ⟨io, r', m, xs, rs1, rm1, r2.mono a1, ?_⟩
      simp only [] at h
      match e2 : Tg.puts ts xs r', h with
      | none, h => exact h
      | some r2, h =>
        intro H2 σ2 a2 rm2 rs2 l2 n2
        refine h H2 σ2 (a1.trans a2) rm2 rs2 (l2.trans l1) fun j hj => ?_
        simp only [Tg.slotss, List.mem_append, not_or] at hj
        exact (n2 j hj.2).trans (n1 j hj.1)
theorem g_tup {n : Nat} (g : Good p W X) (h : PGs X es (gTs p ts)) (hn : (assignEach es X.env).length = ts.length := by rfl) (hst : (assignEach es X.env).findIdx? (·.1) = none := by rfl) : PG X (.Tuple es k pos) (gT p (.tp ts)) := by
  refine (pg_tup (n := ts.length) g.calm h hn hst).weak fun v σ H Q ⟨io, r, m, x, rs, rm, rv, h⟩ => ?_
  cases x with
  | tup xs =>
    simp only [RV] at rv
    obtain ⟨a, vs, rfl, s, rvs⟩ := rv
    simp only [Tg.put] at h
    rw [← g.hK] at s
    have hl : xs.length = ts.length := by
      have : ∀ (ts : List Tg) (xs : List PV) (r r' : Env), Tg.puts ts xs r = some r' → xs.length = ts.length := by
        intro ts
        induction ts with
        | nil => intro xs r r' e; cases xs with
          | nil => rfl
          | cons _ _ => simp [Tg.puts] at e
        | cons t ts ih => intro xs r r' e; cases xs with
          | nil => simp [Tg.puts] at e
          | cons y ys =>
            simp only [Tg.puts] at e
            split at e
            · simp [ih _ _ _ e]
            · cases e
      split at h
      · exact h.elim
      · rename_i e
        exact this _ _ _ _ e
    refine ⟨a, vs, rfl, s, by rw [← rvs.length, hl], io, r, m, xs, rs, rm, rvs, ?_⟩
    simpa only [Tg.slots] using h
  | _ => simp [Tg.put] at h
theorem s_asg {tgx : Expr} (he : PE X e (tE p W fe)) (hg : PG X tgx (gT p tg)) (hs : swapsWithSole [tgx] e pos.line X.env = pure false := by rfl) (hw : swappedStores [tgx] e X.env = pure none := by rfl)
    (h1 : (assignEach [tgx] X.env).map (·.2) = [assign tgx X.env] := by rfl) : PS X (.Assign [tgx] e pos) (tS p W (sAsg tg fe)) := by
  refine (ps_asg he hg hs hw h1).weak fun D σ H ⟨io, r, m, rs, rm, h⟩ => ⟨io, r, m, rs, rm, PostG.mono (PostS.bind h) fun x io1 H1 m1 a1 rm1 h1 v rv => ?_⟩
  refine ⟨io1, r, m1, x, rs.mono a1, rm1, rv, ?_⟩
  split at h1
  · rename_i e
    rw [e]
    exact fun H' σ' a2 rm2 rs2 _ _ => h1 io1 H' σ' a2 rm2 rs2
  · exact h1.elim
theorem s_set {i : Nat} {x : Str} (g : Good p W X) (hi : X.N[i]? = some x) (hx : Loc X.env.scope x) (he : PE X e (tE p W fe)) (hs : swapsWith e (some (.Name x pos')) pos.line X.env = pure false := by rfl) (hf : X.fn x = true ∨ X.env.scope.names.lookup x = some .local := by first | exact .inl rfl | exact .inr rfl | assumption) :
    PS X (.Assign [.Name x pos'] e pos) (tS p W (sAsg (.nm i) fe)) := by
  refine (ps_set g.nd hi hx he hs hf).weak fun D σ H ⟨io, r, m, rs, rm, h⟩ => ⟨io, r, m, rs, rm, PostG.mono (PostS.bind h) fun x io1 H1 m1 a1 rm1 h1 v rv => ?_⟩
  simp only [Tg.put] at h1
  exact h1 io1 H1 _ (.refl _ _) rm1 ((rs.mono a1).set rv i)
end
end Mini
namespace Mini
open PySem L2
section
variable {p : Par} {W : WX} {X : Cx} {pos pos' tpos apos q : Pos} {a b c e o i value : Expr} {es : List Expr} {st : Stmt} {sts sts' : List Stmt} {fa fb fo fi fe : Fe} {fr : Fa} {ft : Ft} {s t : Fs} {cl : Nat} {fld : String}
theorem s_par2 {i j : Nat} {x y : Str} {px py pt : Pos} {kt k2 pt2} (g : Good p W X) (hi : X.N[i]? = some x) (hj : X.N[j]? = some y) (hij : i ≠ j)
    (hx : X.env.scope.names.lookup x = some .local) (hy : X.env.scope.names.lookup y = some .local) (ha : PA X [a, b] (tAr p W fr))
    (hw : swappedStores [.Tuple [.Name x px, .Name y py] kt pt] (.Tuple [a, b] k2 pt2) X.env = pure (some [x, y]))
    (hs : swapsWithSole [.Tuple [.Name x px, .Name y py] kt pt] (.Tuple [a, b] k2 pt2) pos.line X.env = pure false := by rfl) :
    PS X (.Assign [.Tuple [.Name x px, .Name y py] kt pt] (.Tuple [a, b] k2 pt2) pos) (tS p W (sPar [i, j] fr)) := by
  refine (ps_par g.calm g.nd hi hj hij hx hy ha hw hs).weak fun D σ H ⟨io, r, m, rs, rm, h⟩ => ⟨io, r, m, rs, rm, PostG.mono (PostS.bind h) fun xs io1 H1 m1 a1 rm1 h1 vs rvs => ?_⟩
  split at h1
  · rename_i hl
    match xs, hl, h1, rvs with
    | [x1, x2], _, h1, rvs =>
      simp only [RVs] at rvs
      obtain ⟨v1, _, rfl, r1, v2, _, rfl, r2, rfl⟩ := rvs
      exact ⟨v1, v2, rfl, h1 io1 H1 _ (.refl _ _) rm1 (((rs.mono a1).set r1 i).set r2 j)⟩
  · exact h1.elim
theorem s_par3 {i j l : Nat} {x y z : Str} {px py pz pt : Pos} {kt k2 pt2} (g : Good p W X) (hi : X.N[i]? = some x) (hj : X.N[j]? = some y) (hl : X.N[l]? = some z) (hij : i ≠ j) (hil : i ≠ l) (hjl : j ≠ l)
    (hx : X.env.scope.names.lookup x = some .local) (hy : X.env.scope.names.lookup y = some .local) (hz : X.env.scope.names.lookup z = some .local) (ha : PA X [a, b, c] (tAr p W fr))
    (hw : swappedStores [.Tuple [.Name x px, .Name y py, .Name z pz] kt pt] (.Tuple [a, b, c] k2 pt2) X.env = pure (some [x, y, z]))
    (hs : swapsWithSole [.Tuple [.Name x px, .Name y py, .Name z pz] kt pt] (.Tuple [a, b, c] k2 pt2) pos.line X.env = pure false := by rfl) :
    PS X (.Assign [.Tuple [.Name x px, .Name y py, .Name z pz] kt pt] (.Tuple [a, b, c] k2 pt2) pos) (tS p W (sPar [i, j, l] fr)) := by
  refine (ps_par3 g.calm g.nd hi hj hl hij hil hjl hx hy hz ha hw hs).weak fun D σ H ⟨io, r, m, rs, rm, h⟩ => ⟨io, r, m, rs, rm, PostG.mono (PostS.bind h) fun xs io1 H1 m1 a1 rm1 h1 vs rvs => ?_⟩
  split at h1
  · rename_i hl
    match xs, hl, h1, rvs with
    | [x1, x2, x3], _, h1, rvs =>
      simp only [RVs] at rvs
      obtain ⟨v1, _, rfl, r1, v2, _, rfl, r2, v3, _, rfl, r3, rfl⟩ := rvs
      exact ⟨v1, v2, v3, rfl, h1 io1 H1 _ (.refl _ _) rm1 ((((rs.mono a1).set r1 i).set r2 j).set r3 l)⟩
  · exact h1.elim
/-! ### stores to objects -/
theorem s_fld (g : Good p W X) (kc : Cls p.K (p.FA cl)) (hn : NoAttr p.K (p.FA cl) (Str.ofString fld)) (ha : PE X o (tE p W fo)) (hv : PE X value (tE p W fe))
    (hs : swapsWith value (some (.Attribute o (Str.ofString fld) pos')) pos.line X.env = pure false := by rfl) : PS X (.Assign [.Attribute o (Str.ofString fld) pos'] value pos) (tS p W (sFld cl fld fo fe)) := by
  rw [← g.hK] at kc hn
  refine (ps_fld ha hv hs).weak fun D σ H ⟨io, r, m, rs, rm, h⟩ => ⟨io, r, m, rs, rm, PostG.mono (PostS.bind h) fun x io1 H1 m1 a1 rm1 h1 v rv => ?_⟩
  refine ⟨io1, r, m1, rs.mono a1, rm1, PostG.mono (PostS.bind h1) fun y io2 H2 m2 a2 rm2 h2 w rw => ?_⟩
  split at h2
  · rename_i n c' fs hi
    split at h2
    · rename_i hc
      obtain ⟨rfl, hl⟩ := hc
      obtain ⟨_, _, a, dx, vfs, ev, ea, hH, rf⟩ := insOf_rel rm2 hi rw
      refine ⟨a, _, dx, vfs, ev, hH, kc, hn, by rw [← rf.length]; omega, ?_⟩
      have av : Adv io2 H2 io2 (upd H2 a (.ins (p.FA c') dx (putF (Str.ofString fld) v vfs))) := .set rm2 ea (by rw [hH]; intros; simp)
      refine h2 io2 _ σ av (rm2.set ea av ?_) ((rs.mono a1).mono (a2.trans av))
      exact ⟨dx, _, upd_same, ((rv.mono a2).mono av |> fun z => RFs.put z (rf.mono av))⟩
    · exact h2.elim
  · exact h2.elim
theorem PIp_weak {op : Operator} {t t' : TIp} (h : PIp X op t) (w : ∀ x y H Q, t' x y H Q → t x y H Q) : PIp X op t' := fun pins s σ H x y v u Q I r1 r2 q => h pins s σ H x y v u Q I r1 r2 (w _ _ _ _ q)
def vAddI : PV → PV → Sto → Option PV := fun x y _ => match x, y with
  | .int i, .int j => some (.int (i + j))
  | _, _ => none
theorem ip_addI : PIp X .Add (rV2 p vAddI) :=
  PIp_weak ip_add fun v w H Q ⟨io, m, x, y, rm, rx, ry, q⟩ => by
    unfold vAddI at q
    split at q
    · simp only [RV] at rx ry
      exact ⟨_, _, rx, ry, q.same rm (by simp [RV])⟩
    · exact q.elim
theorem in_addI : InOp X .Add (rV2 p vAddI) := fun pins s σ H x y u v Q I r1 r2 h => ip_addI pins s σ H x y u v Q I r1 r2 h
theorem s_fldaug {op : Operator} {gg : PV → PV → Sto → Option PV} (g : Good p W X) (kc : Cls p.K (p.FA cl)) (hn : NoAttr p.K (p.FA cl) (Str.ofString fld)) (ha : PE X o (tE p W fo)) (hv : PE X value (tE p W fe)) (hop : InOp X op (rV2 p gg)) :
    PS X (.AugAssign (.Attribute o (Str.ofString fld) tpos) op value pos) (tS p W (sFldAug cl fld gg fo fe)) := by
  rw [← g.hK] at kc hn
  refine (ps_fldaug ha hv hop).weak fun D σ H ⟨io, r, m, rs, rm, h⟩ => ⟨io, r, m, rs, rm, PostG.mono (PostS.bind h) fun y io1 H1 m1 a1 rm1 h1 w rw => ?_⟩
  split at h1
  case h_2 => exact h1.elim
  rename_i n c' fs hi
  split at h1
  case isFalse => exact h1.elim
  rename_i hc
  subst hc
  split at h1
  case h_2 => exact h1.elim
  rename_i x hx
  obtain ⟨_, _, a, dx, vfs, ev, ea, hH, rf⟩ := insOf_rel rm1 hi rw
  obtain ⟨v, hv1, rv⟩ := rf.some_of hx
  refine ⟨a, _, dx, vfs, v, ev, hH, kc, hn, hv1, io1, r, m1, rs.mono a1, rm1, PostG.mono (PostS.bind h1) fun z io2 H2 m2 a2 rm2 h2 u ru => ?_⟩
  refine ⟨io2, m2, x, z, rm2, rv.mono a2, ru, ?_⟩
  split at h2
  case h_2 => exact h2.elim
  rename_i z' hz
  rw [hz]
  intro H3 v3 a3 rm3 rv3
  split at h2
  case h_2 => exact h2.elim
  rename_i n2 c2 fs2 hi2
  split at h2
  case isFalse => exact h2.elim
  rename_i hc2
  obtain ⟨rfl, hl⟩ := hc2
  obtain ⟨_, _, a', dx', vfs', ev', ea', hH', rf'⟩ := insOf_rel rm3 hi2 ((rw.mono a2).mono a3)
  rw [ev] at ev'
  cases ev'
  refine ⟨dx', vfs', hH', by rw [← rf'.length]; omega, ?_⟩
  have av : Adv io2 H3 io2 (upd H3 a (.ins (p.FA c2) dx' (putF (Str.ofString fld) v3 vfs'))) := .set rm3 ea' (by rw [hH']; intros; simp)
  exact h2 io2 _ σ (a3.trans av) (rm3.set ea' av ⟨dx', _, upd_same, RFs.put (rv3.mono av) (rf'.mono av)⟩) ((rs.mono a1).mono (a2.trans (a3.trans av)))
theorem s_aug {i : Nat} {x : Str} {op : Operator} {gg : PV → PV → Sto → Option PV} (g : Good p W X) (hi : X.N[i]? = some x) (hx : Loc X.env.scope x) (he : PE X e (tE p W fe)) (ho : PIp X op (rV2 p gg)) (hf : X.fn x = true ∨ X.env.scope.names.lookup x = some .local := by first | exact .inl rfl | exact .inr rfl | assumption) :
    PS X (.AugAssign (.Name x pos') op e pos) (tS p W (sAug i gg fe)) := by
  refine (ps_aug g.nd hi hx he ho hf).weak fun D σ H ⟨io, r, m, rs, rm, h⟩ => ?_
  unfold sAug at h
  split at h
  · rename_i x hx
    obtain ⟨v, e1, rv⟩ := rs.at_ i x hx
    refine ⟨v, e1, io, r, m, rs, rm, PostG.mono (PostS.bind h) fun y io1 H1 m1 a1 rm1 h1 w rw => ?_⟩
    refine ⟨io1, m1, x, y, rm1, rv.mono a1, rw, ?_⟩
    split at h1
    · rename_i z hz
      rw [hz]
      exact fun H2 u a2 rm2 ru => h1 io1 H2 _ a2 rm2 ((rs.mono (a1.trans a2)).set ru i)
    · exact h1.elim
  · exact h.elim
theorem lstOf_rel {io : Ad} {H : Hp} {m : Sto} {x : PV} {n : Nat} {xs : List PV} {v : V} (rm : RM p io H m) (e : lstOf x m = some (n, xs)) (rv : RV p io H x v) :
    x = .ref n ∧ m[n]? = some (.lst xs) ∧ ∃ a vs, v = .ref a ∧ io.ix[n]? = some a ∧ H a = some (.lst vs) ∧ RVs p io H xs vs := by
  cases x with
  | ref k =>
    simp only [RV] at rv
    obtain ⟨a, rfl, ha⟩ := rv
    match q : m[k]?, e with
    | some (.lst ys), e =>
      simp only [lstOf, q, Option.some.injEq, Prod.mk.injEq] at e
      obtain ⟨rfl, rfl⟩ := e
      obtain ⟨vs, h1, h2⟩ := (show RO p io H (.lst ys) a from rm.ob k _ a q ha)
      exact ⟨rfl, q, a, vs, rfl, ha, h1, h2⟩
    | some (.ins c' fs'), e => simp [lstOf, q] at e
    | some (.rol ys), e => simp [lstOf, q] at e
    | none, e => simp [lstOf, q] at e
  | _ => simp [lstOf] at e
/-- the list at a is changed -/
theorem set_lst {io : Ad} {H : Hp} {m : Sto} {n : Nat} {a : Addr} {vs vs' : List V} {xs' : List PV} (rm : RM p io H m) (ea : io.ix[n]? = some a) (hH : H a = some (.lst vs)) (rv : RVs p io H xs' vs') :
    Adv io H io (upd H a (.lst vs')) ∧ RM p io (upd H a (.lst vs')) (m.set n (.lst xs')) := by
  have av : Adv io H io (upd H a (.lst vs')) := .set rm ea (by rw [hH]; intros; simp)
  exact ⟨av, rm.set ea av ⟨vs', upd_same, rv.mono av⟩⟩
theorem s_setIx (g : Good p W X) (he : PE X e (tE p W fe)) (ho : PE X o (tE p W fo)) (hi : PE X i (tE p W fi))
    (ha : ∀ v, assign (.Subscript o i tpos) X.env v = (do
      let ov ← holding [v] (eval o X.env)
      let iv ← holding [v, ov] (eval i X.env)
      standAt tpos
      holding [v, ov, iv] (setItem ov iv v)
      release [v, ov, iv] []) := by intro _; rfl)
    (hs : swapsWithSole [.Subscript o i tpos] e pos.line X.env = pure false := by rfl) (hw : swappedStores [.Subscript o i tpos] e X.env = pure none := by rfl)
    (h1 : (assignEach [.Subscript o i tpos] X.env).map (·.2) = [assign (.Subscript o i tpos) X.env] := by rfl) : PS X (.Assign [.Subscript o i tpos] e pos) (tS p W (sSetIx fo fi fe)) := by
  refine (ps_asg he (pg_sub ho hi set_list ha) hs hw h1).weak fun D σ H ⟨io, r, m, rs, rm, h⟩ => ⟨io, r, m, rs, rm, PostG.mono (PostS.bind h) fun x io1 H1 m1 a1 rm1 h1 v rv => ?_⟩
  refine ⟨io1, r, m1, rs.mono a1, rm1, PostG.mono (PostS.bind h1) fun y io2 H2 m2 a2 rm2 h2 w rw => ?_⟩
  refine ⟨io2, r, m2, (rs.mono a1).mono a2, rm2, PostG.mono (PostS.bind h2) fun z io3 H3 m3 a3 rm3 h3 u ru => ?_⟩
  split at h3
  · rename_i n xs k hl
    split at h3
    · rename_i j hj
      obtain ⟨_, _, a, vs, ev, ea, hH, rvs⟩ := lstOf_rel rm3 hl (rw.mono a3)
      simp only [RV] at ru
      obtain ⟨av, rm4⟩ := set_lst (xs' := xs.set j x) rm3 ea hH (rvs.set j (rv.mono (a2.trans a3)))
      exact ⟨a, vs, k, j, ev, ru, hH, by rw [← rvs.length]; exact hj, h3 io3 _ σ av rm4 (rs.mono (a1.trans (a2.trans (a3.trans av))))⟩
    · exact h3.elim
  · exact h3.elim
end
end Mini
namespace Mini
open PySem L2
section
variable {p : Par} {W : WX} {X : Cx} {pos pos' tpos apos cpos q : Pos} {a b c e o i value : Expr} {es : List Expr} {fa fb fo fi fe : Fe} {fr : Fa} {x : Str} {id T : String} {g : List PV → Sto → Option PV}
/-! ### built-in functions -/
theorem blt_weak {σ : St} {H : Hp} {Q : VK} (h : tE p W (fBlt g fr) σ H Q) : tCB (rVA p g) (tAr p W fr) σ H Q := by
  obtain ⟨io, r, m, rs, rm, h⟩ := h
  refine ⟨io, r, m, rs, rm, PostG.mono (PostG.bind h) fun xs io1 H1 m1 a1 rm1 h1 vs rvs => ?_⟩
  exact ⟨io1, m1, xs, rm1, rvs, h1.val⟩
theorem r_blt (hc : CallR X (.builtin id) (rVA p g)) (hg : Gl X x) (hm : X.mg x = none) (hv : bootBuiltins x = some (.builtin id)) (ha : PA X (e :: es) (tAr p W fr)) (hn : x ≠ "__name__" := by decide) (hdb : (x == ("__debug__" : Str)) = false := by decide)
    (he : starEach (e :: es) X.env = (false, eval e X.env) :: starEach es X.env := by rfl) (hpl : (backTo pos (starEach es X.env)).any (·.1) = false := by rfl) : PE X (.Call (.Name x q) (e :: es) [] pos) (tE p W (fBlt g fr)) :=
  (pe_callB hc hg hm hv ha hn hdb he hpl).weak fun _ _ _ => blt_weak
theorem r_bty (hc : CallR X (.type T) (rVA p g)) (hg : Gl X x) (hm : X.mg x = none) (hv : bootBuiltins x = some (.type T)) (ha : PA X (e :: es) (tAr p W fr)) (hn : x ≠ "__name__" := by decide) (hdb : (x == ("__debug__" : Str)) = false := by decide)
    (he : starEach (e :: es) X.env = (false, eval e X.env) :: starEach es X.env := by rfl) (hpl : (backTo pos (starEach es X.env)).any (·.1) = false := by rfl) : PE X (.Call (.Name x q) (e :: es) [] pos) (tE p W (fBlt g fr)) :=
  (pe_callTy hc hg hm hv ha hn hdb he hpl).weak fun _ _ _ => blt_weak
theorem CallR_weak {f : Value} {r r' : List V → Hp → VK → Prop} (h : CallR X f r) (w : ∀ xs H Q, r' xs H Q → r xs H Q) : CallR X f r' := fun pins s σ H xs us Q I rs q => h pins s σ H xs us Q I rs (w _ _ _ q)
/-- a sequence, list or tuple, that is read -/
def rdS : PV → Sto → Option (List PV)
  | .tup xs, _ => some xs
  | x, m => rdQ x m
theorem rdS_rel {io : Ad} {H : Hp} {m : Sto} {x : PV} {xs : List PV} {v : V} (r : RM p io H m) (e : rdS x m = some xs) (h : RV p io H x v) : ∃ a vs, v = .ref a ∧ (SqL p.K H a vs ∨ SqT p.K H a vs) ∧ RVs p io H xs vs := by
  have lis : ∀ {x : PV} {v : V}, rdQ x m = some xs → RV p io H x v → ∃ a vs, v = .ref a ∧ (SqL p.K H a vs ∨ SqT p.K H a vs) ∧ RVs p io H xs vs := fun e h => by
    obtain ⟨a, vs, h1, h2, h3⟩ := rdQ_rel r e h
    exact ⟨a, vs, h1, .inl h2, h3⟩
  cases x with
  | tup ys =>
    simp only [rdS, Option.some.injEq] at e
    subst e
    simp only [RV] at h
    obtain ⟨a, vs, h1, h2, h3⟩ := h
    exact ⟨a, vs, h1, .inr h2, h3⟩
  | lst ys => exact lis (by simpa only [rdS] using e) h
  | ref n => exact lis (by simpa only [rdS] using e) h
  | _ => simp [rdS, rdQ] at e
def vLen : List PV → Sto → Option PV := fun xs m => match xs with
  | [.str z] => if z.length ≤ sizeLine then some (.int z.length) else none
  | [x] => match rdS x m with
    | some ys => some (.int ys.length)
    | none => none
  | _ => none
theorem c_len (hK : X.K = p.K) : CallR X (.builtin "len") (rVA p vLen) := by
  refine CallR_weak call_len fun vs H Q ⟨io, m, xs, rm, rv, h⟩ => ?_
  unfold vLen at h
  split at h
  · split at h
    · rename_i z hz
      simp only [RVs, RV] at rv
      obtain ⟨_, _, rfl, rfl, rfl⟩ := rv
      exact ⟨_, z.length, rfl, ⟨by rw [mkS_length]; exact hz, by rw [mkS_length]⟩, h.same rm (by simp [RV])⟩
    · exact h.elim
  · split at h
    · rename_i ys hy
      simp only [RVs] at rv
      obtain ⟨v, _, rfl, rv, rfl⟩ := rv
      obtain ⟨a, vs, rfl, s, r⟩ := rdS_rel rm hy rv
      rw [← hK] at s
      refine ⟨_, ys.length, rfl, ?_, h.same rm (by simp [RV])⟩
      rcases s with s | s
      · exact .inl ⟨_, s, r.length⟩
      · exact .inr ⟨_, s, r.length⟩
    · exact h.elim
  · exact h.elim
def vAbs : List PV → Sto → Option PV := fun xs _ => match xs with
  | [.int i] => some (.int (if i < 0 then -i else i))
  | _ => none
theorem c_abs : CallR X (.builtin "abs") (rVA p vAbs) := by
  refine CallR_weak call_abs fun vs H Q ⟨io, m, xs, rm, rv, h⟩ => ?_
  unfold vAbs at h
  split at h
  · simp only [RVs, RV] at rv
    obtain ⟨_, _, rfl, rfl, rfl⟩ := rv
    exact ⟨_, rfl, h.same rm (by simp [RV])⟩
  · exact h.elim
def vMax : List PV → Sto → Option PV := fun xs _ => match xs with
  | [.int i, .int j] => some (.int (if j > i then j else i))
  | _ => none
def vMin : List PV → Sto → Option PV := fun xs _ => match xs with
  | [.int i, .int j] => some (.int (if j < i then j else i))
  | _ => none
theorem c_max (hc : X.calm = true) : CallR X (.builtin "max") (rVA p vMax) := by
  refine CallR_weak (call_max2 hc) fun vs H Q ⟨io, m, xs, rm, rv, h⟩ => ?_
  unfold vMax at h
  split at h
  · simp only [RVs, RV] at rv
    obtain ⟨_, _, rfl, rfl, _, _, rfl, rfl, rfl⟩ := rv
    exact ⟨_, _, rfl, h.same rm (by simp [RV])⟩
  · exact h.elim
theorem c_min (hc : X.calm = true) : CallR X (.builtin "min") (rVA p vMin) := by
  refine CallR_weak (call_min2 hc) fun vs H Q ⟨io, m, xs, rm, rv, h⟩ => ?_
  unfold vMin at h
  split at h
  · simp only [RVs, RV] at rv
    obtain ⟨_, _, rfl, rfl, _, _, rfl, rfl, rfl⟩ := rv
    exact ⟨_, _, rfl, h.same rm (by simp [RV])⟩
  · exact h.elim
/-- int(x) -/
def vInt : List PV → Sto → Option PV := fun xs _ => match xs with
  | [.int i] => some (.int i)
  | [.bl b] => some (.int (if b then 1 else 0))
  | [.str z] => if z.length ≤ 640 then match PySem.intText? (mkS z) with
    | some n => some (.int n)
    | none => none else none
  | _ => none
theorem c_int : CallR X (.type "int") (rVA p vInt) := by
  refine CallR_weak (CallR.or call_int1 call_int_str) fun vs H Q ⟨io, m, xs, rm, rv, h⟩ => ?_
  unfold vInt at h
  split at h
  · simp only [RVs, RV] at rv
    obtain ⟨_, _, rfl, rfl, rfl⟩ := rv
    exact .inl (.inl ⟨_, rfl, h.same rm (by simp [RV])⟩)
  · simp only [RVs, RV] at rv
    obtain ⟨_, _, rfl, rfl, rfl⟩ := rv
    exact .inl (.inr ⟨_, rfl, h.same rm (by simp [RV])⟩)
  · split at h
    · rename_i hz
      split at h
      · rename_i n hn
        simp only [RVs, RV] at rv
        obtain ⟨_, _, rfl, rfl, rfl⟩ := rv
        exact .inr ⟨_, n, rfl, hn, by rw [mkS_length]; exact hz, h.same rm (by simp [RV])⟩
      · exact h.elim
    · exact h.elim
  · exact h.elim
/-- the figures of a number -/
def figs (i : Int) : List Nat := (toString i).toList.map Char.toNat
theorem figs_is (i : Int) : mkS (figs i) = Str.ofString (toString i) := by
  rw [Str.ofString_eq_toList]
  rfl
def vStr : List PV → Sto → Option PV := fun xs _ => match xs with
  | [.int i] => if i.natAbs.log2 < 1920 then some (.str (figs i)) else none
  | _ => none
theorem c_str : CallR X (.type "str") (rVA p vStr) := by
  refine CallR_weak call_str_int fun vs H Q ⟨io, m, xs, rm, rv, h⟩ => ?_
  unfold vStr at h
  split at h
  · split at h
    · rename_i hz
      simp only [RVs, RV] at rv
      obtain ⟨_, _, rfl, rfl, rfl⟩ := rv
      exact ⟨_, rfl, hz, h.same rm (by simp [RV, figs_is])⟩
    · exact h.elim
  · exact h.elim
def vTuple : List PV → Sto → Option PV := fun xs m => match xs with
  | [x] => match rdS x m with
    | some ys => some (.tup ys)
    | none => none
  | _ => none
theorem c_tuple (hK : X.K = p.K) : CallR X (.type "tuple") (rVA p vTuple) := by
  refine CallR_weak call_tuple_of fun vs H Q ⟨io, m, xs, rm, rv, h⟩ => ?_
  unfold vTuple at h
  split at h
  · split at h
    · rename_i ys hy
      simp only [RVs] at rv
      obtain ⟨v, _, rfl, rv, rfl⟩ := rv
      obtain ⟨a, vs, rfl, s, r⟩ := rdS_rel rm hy rv
      rw [← hK] at s
      refine ⟨a, vs, rfl, ?_⟩
      rcases s with s | s
      · exact .inl ⟨s, h.tup rm r⟩
      · exact .inr ⟨s, h.same rm (by simp only [RV]; exact ⟨a, vs, rfl, by rw [← hK]; exact s, r⟩)⟩
    · exact h.elim
  · exact h.elim
/-- list(x): a new list -/
def vList : List PV → Sto → Option PV := fun xs m => match xs with
  | [x] => match rdS x m with
    | some ys => some (.lst ys)
    | none => none
  | _ => none
theorem c_list (hK : X.K = p.K) : CallR X (.type "list") (rVA p vList) := by
  refine CallR_weak call_list_of fun vs H Q ⟨io, m, xs, rm, rv, h⟩ => ?_
  unfold vList at h
  split at h
  · split at h
    · rename_i ys hy
      simp only [RVs] at rv
      obtain ⟨v, _, rfl, rv, rfl⟩ := rv
      obtain ⟨a, vs, rfl, s, r⟩ := rdS_rel rm hy rv
      rw [← hK] at s
      exact ⟨a, vs, rfl, s, h.lst rm r⟩
    · exact h.elim
  · exact h.elim
def blsOf : List PV → Option (List Bool)
  | [] => some []
  | .bl b :: r => (blsOf r).map (b :: ·)
  | _ => none
theorem blsOf_rel {io : Ad} {H : Hp} : ∀ {xs : List PV} {bs : List Bool} {vs : List V}, blsOf xs = some bs → RVs p io H xs vs → vs = bs.map V.bl
  | [], _, _, e, h => by
    simp only [blsOf, Option.some.injEq] at e
    subst e
    simpa [RVs] using h
  | .bl b :: r, _, _, e, h => by
    simp only [blsOf, Option.map_eq_some_iff] at e
    obtain ⟨bs, e, rfl⟩ := e
    simp only [RVs, RV] at h
    obtain ⟨v, w, rfl, rfl, h⟩ := h
    rw [blsOf_rel e h]
    rfl
  | .non :: _, _, _, e, _ => by simp [blsOf] at e
  | .int _ :: _, _, _, e, _ => by simp [blsOf] at e
  | .str _ :: _, _, _, e, _ => by simp [blsOf] at e
  | .tup _ :: _, _, _, e, _ => by simp [blsOf] at e
  | .lst _ :: _, _, _, e, _ => by simp [blsOf] at e
  | .dct _ _ :: _, _, _, e, _ => by simp [blsOf] at e
  | .ref _ :: _, _, _, e, _ => by simp [blsOf] at e
  | .glo _ :: _, _, _, e, _ => by simp [blsOf] at e
  | .ty _ :: _, _, _, e, _ => by simp [blsOf] at e
def vAll : List PV → Sto → Option PV := fun xs m => match xs with
  | [x] => match rdQ x m with
    | some ys => match blsOf ys with
      | some bs => some (.bl (bs.all _root_.id))
      | none => none
    | none => none
  | _ => none
def vAny : List PV → Sto → Option PV := fun xs m => match xs with
  | [x] => match rdQ x m with
    | some ys => match blsOf ys with
      | some bs => some (.bl (bs.any _root_.id))
      | none => none
    | none => none
  | _ => none
theorem c_all (g : Good p W X) : CallR X (.builtin "all") (rVA p vAll) := by
  refine CallR_weak (cr_all g.calm) fun vs H Q ⟨io, m, xs, rm, rv, h⟩ => ?_
  unfold vAll at h
  split at h
  · split at h
    · rename_i ys hy
      split at h
      · rename_i bs hb
        simp only [RVs] at rv
        obtain ⟨v, _, rfl, rv, rfl⟩ := rv
        obtain ⟨a, vs, rfl, s, r⟩ := rdQ_rel rm hy rv
        have := blsOf_rel hb r
        subst this
        exact ⟨a, bs, rfl, by rw [g.hK]; exact s, h.same rm (by simp [RV])⟩
      · exact h.elim
    · exact h.elim
  · exact h.elim
theorem c_any (g : Good p W X) : CallR X (.builtin "any") (rVA p vAny) := by
  refine CallR_weak (cr_any g.calm) fun vs H Q ⟨io, m, xs, rm, rv, h⟩ => ?_
  unfold vAny at h
  split at h
  · split at h
    · rename_i ys hy
      split at h
      · rename_i bs hb
        simp only [RVs] at rv
        obtain ⟨v, _, rfl, rv, rfl⟩ := rv
        obtain ⟨a, vs, rfl, s, r⟩ := rdQ_rel rm hy rv
        have := blsOf_rel hb r
        subst this
        exact ⟨a, bs, rfl, by rw [g.hK]; exact s, h.same rm (by simp [RV])⟩
      · exact h.elim
    · exact h.elim
  · exact h.elim
/-! ### isinstance against a built-in class -/
/-- the name of a value's class, where it is a built-in one -/
def tyN : PV → Sto → Option String
  | .non, _ => some "NoneType"
  | .bl _, _ => some "bool"
  | .int _, _ => some "int"
  | .str _, _ => some "str"
  | .tup _, _ => some "tuple"
  | .lst _, _ => some "list"
  | .dct _ _, _ => some "dict"
  | .ref n, m => match m[n]? with
    | some (.lst _) => some "list"
    | _ => none
  | _, _ => none
theorem tyN_rel {io : Ad} {H : Hp} {m : Sto} {x : PV} {t : String} {v : V} (r : RM p io H m) (e : tyN x m = some t) (h : RV p io H x v) : TyX p.K H v (.type t) := by
  cases x with
  | non => simp only [tyN, Option.some.injEq] at e; subst e; simp only [RV] at h; subst h; exact .base .non
  | bl b => simp only [tyN, Option.some.injEq] at e; subst e; simp only [RV] at h; subst h; exact .base (.bl b)
  | int b => simp only [tyN, Option.some.injEq] at e; subst e; simp only [RV] at h; subst h; exact .base (.int b)
  | str b => simp only [tyN, Option.some.injEq] at e; subst e; simp only [RV] at h; subst h; exact .base (.str _)
  | tup xs =>
    simp only [tyN, Option.some.injEq] at e
    subst e
    simp only [RV] at h
    obtain ⟨a, vs, rfl, s, _⟩ := h
    rcases s with (s | ⟨o, s⟩) | ⟨o, its, n, hk, hc, _⟩
    · exact .base (.tup s)
    · exact .fTuple s
    · exact .kTuple hk hc
  | lst xs =>
    simp only [tyN, Option.some.injEq] at e
    subst e
    simp only [RV] at h
    obtain ⟨a, vs, rfl, s, _⟩ := h
    exact .base (.lst s)
  | dct ks xs =>
    simp only [tyN, Option.some.injEq] at e
    subst e
    simp only [RV] at h
    obtain ⟨a, vs, rfl, s, _⟩ := h
    exact .base (.dK s)
  | ref n =>
    simp only [RV] at h
    obtain ⟨a, rfl, ha⟩ := h
    match q : m[n]?, e with
    | some (.lst ys), e =>
      simp only [tyN, q, Option.some.injEq] at e
      subst e
      obtain ⟨vs, h1, h2⟩ := (show RO p io H (.lst ys) a from r.ob n _ a q ha)
      exact .base (.lst h1)
    | some (.ins _ _), e => simp [tyN, q] at e
    | some (.rol _), e => simp [tyN, q] at e
    | none, e => simp [tyN, q] at e
  | glo k => simp [tyN] at e
  | ty k => simp [tyN] at e
def vIsInst : List PV → Sto → Option PV := fun xs m => match xs with
  | [x, .ty c] => match tyN x m with
    | some t => match kitB t c with
      | some b => some (.bl b)
      | none => none
    | none => none
  | _ => none
theorem c_isInst (hK : X.K = p.K) : CallR X (.builtin "isinstance") (rVA p vIsInst) := by
  refine CallR_weak call_isi fun vs H Q ⟨io, m, xs, rm, rv, h⟩ => ?_
  unfold vIsInst at h
  split at h
  · split at h
    · rename_i t ht
      split at h
      · rename_i b hb
        simp only [RVs] at rv
        obtain ⟨v, _, rfl, rv, w, _, rfl, rw', rfl⟩ := rv
        simp only [RV] at rw'
        subst rw'
        exact ⟨v, _, _, _, b, rfl, .ty _, by rw [hK]; exact tyN_rel rm ht rv, kit_ty hb, h.same rm (by simp [RV])⟩
      · exact h.elim
    · exact h.elim
  · exact h.elim
end
end Mini
namespace Mini
open PySem L2
section
variable {p : Par} {W : WX} {X : Cx} {pos pos' tpos apos cpos q p2 : Pos} {a b c e o i value : Expr} {es : List Expr} {lo hi : Option Expr} {fa fb fo fi fe : Fe} {fr : Fa} {x : Str} {id T : String}
/-! ### subscripts, slices -/
theorem atI_map {α β : Type} (f : α → β) (xs : List α) (i : Int) : atI (xs.map f) i = (atI xs i).map f := by
  unfold atI
  rw [List.length_map]
  cases ixN xs.length i with
  | none => rfl
  | some j => simp
theorem RVs.atI {io : Ad} {H : Hp} {xs : List PV} {vs : List V} {i : Int} {y : PV} (h : RVs p io H xs vs) (e : L2.atI xs i = some y) : ∃ v, L2.atI vs i = some v ∧ RV p io H y v := by
  unfold L2.atI at e ⊢
  rw [h.length] at e
  cases k : ixN vs.length i with
  | none => rw [k] at e; cases e
  | some j =>
    rw [k] at e
    exact h.get e
def vIx : PV → PV → Sto → Option PV := fun x y m => match x, y with
  | .str z, .int i => if z.length ≤ sizeLine then match atI z i with
    | some c => some (.str [c])
    | none => none else none
  | x, .int i => match rdS x m with
    | some xs => atI xs i
    | none => none
  | _, _ => none
theorem IxR_weak {r r' : R2} (h : IxR X r) (w : ∀ x y H Q, r' x y H Q → r x y H Q) : IxR X r' := fun va sl pins s σ H x y v u Q I rx ry q => h va sl pins s σ H x y v u Q I rx ry (w _ _ _ _ q)
theorem ix_all (hK : X.K = p.K) : IxR X (rV2 p vIx) := by
  refine IxR_weak ix_seq fun v w H Q ⟨io, m, x, y, rm, rx, ry, h⟩ => ?_
  unfold vIx at h
  split at h
  · split at h
    · rename_i hz
      split at h
      · rename_i hc
        simp only [RV] at rx ry
        exact .inr (.inr ⟨_, _, _, rx, ry, by rw [mkS_length]; exact hz, by rw [mkS_cps]; exact hc, h.same rm (by simp [RV, mkS])⟩)
      · exact h.elim
    · exact h.elim
  · split at h
    · rename_i xs hx
      obtain ⟨a, vs, e, s, r⟩ := rdS_rel rm hx rx
      simp only [RV] at ry
      rw [← hK] at s
      match q : atI xs _, h with
      | some z, h =>
        obtain ⟨u, h1, h2⟩ := r.atI q
        rcases s with s | s
        · exact .inl ⟨a, vs, _, u, e, ry, s, h1, h.same rm h2⟩
        · exact .inr (.inl ⟨a, vs, _, u, e, ry, s, h1, h.same rm h2⟩)
    · exact h.elim
  · exact h.elim
theorem r_ix (g : Good p W X) (ha : PE X a (tE p W fa)) (hb : PE X b (tE p W fb)) (hs : PlainIx b := by exact fun _ _ => rfl) : PE X (.Subscript a b pos) (tE p W (f2 vIx fa fb)) :=
  (pe_ix (ix_all g.hK) ha hb hs).weak fun _ _ _ => bin_weak
/-- a part of a list, a text -/
def cutL {α : Type} (xs : List α) (lo hi : Option Int) : List α := (xs.drop (HT.sIx xs.length 0 lo)).take (HT.sIx xs.length xs.length hi - HT.sIx xs.length 0 lo)
def vSl : PV → Option Int → Option Int → Sto → Option PV := fun x lo hi m => match x with
  | .str z => if z.length ≤ sizeLine then some (.str (cutL z lo hi)) else none
  | .tup xs => some (.tup (cutL xs lo hi))
  | x => match rdQ x m with
    | some xs => some (.lst (cutL xs lo hi))
    | none => none
theorem RVs.cut {io : Ad} {H : Hp} {xs : List PV} {vs : List V} (h : RVs p io H xs vs) (lo hi : Option Int) : RVs p io H (cutL xs lo hi) (cutV vs lo hi) := by
  unfold cutL cutV
  rw [h.length]
  exact (h.drop _).take _
theorem cutS_mk (z : List Nat) (lo hi : Option Int) : cutS (mkS z) lo hi = mkS (cutL z lo hi) := by
  unfold cutS cutL
  rw [mkS_length, mkS_cps]
  rfl
theorem cut_whole {xs : List PV} {lo hi : Option Int} (h : HT.sIx xs.length 0 lo = 0 ∧ HT.sIx xs.length xs.length hi = xs.length) : cutL xs lo hi = xs := by
  unfold cutL
  rw [h.1, h.2]
  simp
def rVSl (p : Par) : V → Option Int → Option Int → Hp → VK → Prop := fun v lo hi H Q => ∃ io m x, RM p io H m ∧ RV p io H x v ∧ PostV p io H m (vSl x lo hi m) Q
theorem sl_all (hK : X.K = p.K) : SlR X (rVSl p) := by
  have key : SlR X (fun x lo hi H Q => rSlS x lo hi H Q ∨ (rSlA X.K x lo hi H Q ∨ rSlL X.K x lo hi H Q)) := SlR.or sl_str (SlR.or sl_tupA sl_list)
  intro pins s σ H v u vl vu lo hi sl Q I rx hs pl pu ⟨io, m, x, rm, rv, h⟩
  refine key pins s σ H v u vl vu lo hi sl Q I rx hs pl pu ?_
  unfold vSl at h
  split at h
  · split at h
    · rename_i z hz
      simp only [RV] at rv
      exact .inl ⟨_, rv, by rw [mkS_length]; exact hz, by rw [cutS_mk]; exact h.same rm (by simp [RV])⟩
    · exact h.elim
  · rename_i xs
    have rv' := rv
    simp only [RV] at rv
    obtain ⟨a, vs, e, s, r⟩ := rv
    rw [← hK] at s
    refine .inr (.inl ⟨a, vs, e, s, fun w => ?_, fun _ => h.tup rm (r.cut lo hi)⟩)
    rw [← r.length] at w
    rw [cut_whole w, ] at h
    rw [e] at rv'
    exact h.same rm rv'
  · split at h
    · rename_i xs hx
      obtain ⟨a, vs, e, s, r⟩ := rdQ_rel rm hx rv
      rw [← hK] at s
      exact .inr (.inr ⟨a, vs, e, s, h.lst rm (r.cut lo hi)⟩)
    · exact h.elim
abbrev Fo := Env → Sto → Res (Option Int)
def oNone : Fo := fun _ m => some (.ok none, m)
def oSome (fe : Fe) : Fo := fun r m => (fe r m).bind fun x m1 => match x with
  | .int i => some (.ok (some i), m1)
  | _ => none
def tO (p : Par) (W : WX) (f : Fo) : TO := fun σ H Q => ∃ io r m, RS p io H r σ ∧ RM p io H m ∧ PostG p W io H σ (f r m) fun x _ H' _ => Q x H'
theorem o_none : PO X none (tO p W oNone) := ⟨fun pins s σ H Q I ⟨io, r, m, rs, rm, h⟩ => po_none.run pins s σ H Q I (PostG.of_ok rm h)⟩
theorem o_some (he : PE X e (tE p W fe)) : PO X (some e) (tO p W (oSome fe)) := ⟨fun pins s σ H Q I ⟨io, r, m, rs, rm, h⟩ => (po_some he).run pins s σ H Q I ⟨io, r, m, rs, rm, PostG.mono (PostG.bind h) fun x io1 H1 m1 a1 rm1 h1 v rv => by
  split at h1
  · simp only [RV] at rv
    exact ⟨_, rv, PostG.of_ok rm1 h1⟩
  · exact h1.elim⟩⟩
def fSl (fe : Fe) (fl fh : Fo) : Fe := fun r m => (fe r m).bind fun x m1 => (fl r m1).bind fun l m2 => (fh r m2).bind fun h m3 => up (vSl x l h m3) m3
theorem r_sl {fl fh : Fo} (g : Good p W X) (he : PE X e (tE p W fe)) (hl : PO X lo (tO p W fl)) (hh : PO X hi (tO p W fh)) : PE X (.Subscript e (.Slice lo hi none p2) pos) (tE p W (fSl fe fl fh)) := by
  refine (pe_slice (sl_all (p := p) g.hK) he hl hh).weak fun σ H Q ⟨io, r, m, rs, rm, h⟩ => ⟨io, r, m, rs, rm, PostG.mono (PostG.bind h) fun x io1 H1 m1 a1 rm1 h1 v rv => ?_⟩
  refine ⟨io1, r, m1, rs.mono a1, rm1, PostG.mono (PostG.bind h1) fun l io2 H2 m2 a2 rm2 h2 => ?_⟩
  refine ⟨io2, r, m2, (rs.mono a1).mono a2, rm2, PostG.mono (PostG.bind h2) fun u io3 H3 m3 a3 rm3 h3 => ?_⟩
  exact ⟨io3, m3, x, rm3, (rv.mono a2).mono a3, h3.val⟩
/-! ### methods of lists and texts -/
def PostM (p : Par) (io : Ad) (H : Hp) (r : Option (PV × Sto)) (Q : VK) : Prop := match r with
  | none => False
  | some (x, m) => ∀ H' v, Adv io H io H' → RM p io H' m → RV p io H' x v → Q v H'
def rVM (p : Par) (g : PV → List PV → Sto → Option (PV × Sto)) : V → List V → Hp → VK → Prop := fun v vs H Q => ∃ io m x xs, RM p io H m ∧ RV p io H x v ∧ RVs p io H xs vs ∧ PostM p io H (g x xs m) Q
/-- is it a list, a text, a dict that is read -/
def chkT (T : String) (x : PV) (m : Sto) : Bool := match x with
  | .str _ => T == "str"
  | .dct _ _ => T == "dict"
  | x => T == "list" && (rdQ x m).isSome
def fBm (T : String) (g : PV → List PV → Sto → Option (PV × Sto)) (fo : Fe) (fa : Fa) : Fe := fun r m => (fo r m).bind fun x m1 => if chkT T x m1 = true then (fa r m1).bind fun xs m2 => upS (g x xs m2) else none
theorem tyV_of {io : Ad} {H : Hp} {m : Sto} {x : PV} {v : V} (hK : X.K = p.K) (rm : RM p io H m) (e : chkT T x m = true) (rv : RV p io H x v) : tyV X.K T v H := by
  have lis : ∀ {x : PV} {v : V}, RV p io H x v → (T == "list" && (rdQ x m).isSome) = true → tyV X.K T v H := fun {x v} rv e => by
    simp only [Bool.and_eq_true, beq_iff_eq, Option.isSome_iff_exists] at e
    obtain ⟨e1, xs, e2⟩ := e
    obtain ⟨a, vs, rfl, s, _⟩ := rdQ_rel rm e2 rv
    rw [hK]
    exact .inl ⟨e1, vs, s⟩
  cases x with
  | str b =>
    simp only [chkT, beq_iff_eq] at e
    simp only [RV] at rv
    subst rv
    exact e
  | dct ks xs =>
    simp only [chkT, beq_iff_eq] at e
    simp only [RV] at rv
    obtain ⟨a, vs, rfl, s, _⟩ := rv
    exact .inr (.inr (.inl ⟨e, .inl ⟨_, s⟩⟩))
  | non => exact lis rv e
  | bl b => exact lis rv e
  | int b => exact lis rv e
  | tup b => exact lis rv e
  | lst b => exact lis rv e
  | ref b => exact lis rv e
  | glo b => exact lis rv e
  | ty b => exact lis rv e
theorem PostM.of {io : Ad} {H : Hp} {σ : St} {r : Option (PV × Sto)} {Q : VK} (h : PostG p W io H σ (upS r) fun x io' H' _ => ∀ v, RV p io' H' x v → Q v H') : PostM p io H r Q := by
  cases r with
  | none => exact h
  | some y => exact fun H' v a rm rv => h io H' a rm v rv
theorem r_bm {name : Str} {g : PV → List PV → Sto → Option (PV × Sto)} (gd : Good p W X) (pa : PlainAttrs T) (slot : Slot T name id) (hty : typeOf (.builtin id) = pure (.type "method_descriptor")) (hm : MtR X id (rVM p g)) (ho : PE X o (tE p W fo)) (ha : PA X (e :: es) (tAr p W fr))
    (hbase : attributeBase o name X.env (eval o X.env) = eval o X.env := by rfl)
    (hfew : ((backTo cpos (starEach (e :: es) X.env)).all (fun x => !x.1) && (backToKw cpos (keywordEach [] X.env)).all (fun x => x.1.isSome)
      && decide ((e :: es).length + ([] : List Keyword).length + (if ([] : List Keyword).isEmpty then 0 else 1) < 30)) = true := by rfl)
    (hline : (apos.endLine == cpos.line) = true := by rfl) (hs : starEach (e :: es) X.env = (false, eval e X.env) :: starEach es X.env := by rfl) (hplain : (backTo cpos (starEach es X.env)).any (·.1) = false := by rfl) :
    PE X (.Call (.Attribute o name apos) (e :: es) [] cpos) (tE p W (fBm T g fo fr)) := by
  refine (pe_bm pa slot hty hm ho ha hbase hfew hline hs hplain).weak fun σ H Q ⟨io, r, m, rs, rm, h⟩ => ⟨io, r, m, rs, rm, PostG.mono (PostG.bind h) fun x io1 H1 m1 a1 rm1 h1 v rv => ?_⟩
  split at h1
  · rename_i hc
    refine ⟨tyV_of gd.hK rm1 hc rv, io1, r, m1, rs.mono a1, rm1, PostG.mono (PostG.bind h1) fun xs io2 H2 m2 a2 rm2 h2 vs rvs => ?_⟩
    exact ⟨io2, m2, x, xs, rm2, rv.mono a2, rvs, .of h2⟩
  · exact h1.elim
theorem MtR_weak {r r' : V → List V → Hp → VK → Prop} (h : MtR X id r) (w : ∀ x xs H Q, r' x xs H Q → r x xs H Q) : MtR X id r' := fun pins s σ H x xs v us Q I r rs q => h pins s σ H x xs v us Q I r rs (w _ _ _ _ q)
def vAppend : PV → List PV → Sto → Option (PV × Sto) := fun x ys m => match lstOf x m, ys with
  | some (n, xs), [y] => if xs.length < sizeLine then some (.non, m.set n (.lst (xs ++ [y]))) else none
  | _, _ => none
theorem m_append : MtR X "list.append" (rVM p vAppend) := by
  refine MtR_weak mt_append fun v vs H Q ⟨io, m, x, xs, rm, rv, rvs, h⟩ => ?_
  unfold vAppend at h
  split at h
  · rename_i n ys y hl
    split at h
    · rename_i hz
      obtain ⟨_, _, a, ws, ev, ea, hH, rws⟩ := lstOf_rel rm hl rv
      simp only [RVs] at rvs
      obtain ⟨w, _, rfl, ry, rfl⟩ := rvs
      obtain ⟨av, rm2⟩ := set_lst (xs' := ys ++ [y]) (vs' := ws ++ [w]) rm ea hH (rws.append (by simp only [RVs]; exact ⟨w, [], rfl, ry, rfl⟩))
      exact ⟨a, ws, w, ev, rfl, hH, by rw [← rws.length]; exact hz, h _ .non av rm2 (by simp [RV])⟩
    · exact h.elim
  · exact h.elim
def vExtend : PV → List PV → Sto → Option (PV × Sto) := fun x ys m => match lstOf x m, ys with
  | some (n, xs), [y] => match rdL y m with
    | some zs => if xs.length + zs.length ≤ sizeLine then some (.non, m.set n (.lst (xs ++ zs))) else none
    | none => none
  | _, _ => none
theorem m_extend : MtR X "list.extend" (rVM p vExtend) := by
  refine MtR_weak mt_extend fun v vs H Q ⟨io, m, x, xs, rm, rv, rvs, h⟩ => ?_
  unfold vExtend at h
  split at h
  · rename_i n ys y hl
    split at h
    · rename_i zs hzs
      split at h
      · rename_i hz
        obtain ⟨_, _, a, ws, ev, ea, hH, rws⟩ := lstOf_rel rm hl rv
        simp only [RVs] at rvs
        obtain ⟨w, _, rfl, ry, rfl⟩ := rvs
        obtain ⟨b, us, rfl, hb, rus⟩ := rdL_rel rm hzs ry
        obtain ⟨av, rm2⟩ := set_lst (xs' := ys ++ zs) (vs' := ws ++ us) rm ea hH (rws.append rus)
        exact ⟨a, b, ws, us, ev, rfl, hH, hb, by rw [← rws.length, ← rus.length]; exact hz, h _ .non av rm2 (by simp [RV])⟩
      · exact h.elim
    · exact h.elim
  · exact h.elim
def strsOf : List PV → Option (List (List Nat))
  | [] => some []
  | .str b :: r => (strsOf r).map (b :: ·)
  | _ => none
theorem strsOf_rel {io : Ad} {H : Hp} : ∀ {xs : List PV} {bs : List (List Nat)} {vs : List V}, strsOf xs = some bs → RVs p io H xs vs → vs = (bs.map mkS).map V.str
  | [], _, _, e, h => by
    simp only [strsOf, Option.some.injEq] at e
    subst e
    simpa [RVs] using h
  | .str b :: r, _, _, e, h => by
    simp only [strsOf, Option.map_eq_some_iff] at e
    obtain ⟨bs, e, rfl⟩ := e
    simp only [RVs, RV] at h
    obtain ⟨v, w, rfl, rfl, h⟩ := h
    rw [strsOf_rel e h]
    rfl
  | .non :: _, _, _, e, _ => by simp [strsOf] at e
  | .int _ :: _, _, _, e, _ => by simp [strsOf] at e
  | .bl _ :: _, _, _, e, _ => by simp [strsOf] at e
  | .tup _ :: _, _, _, e, _ => by simp [strsOf] at e
  | .lst _ :: _, _, _, e, _ => by simp [strsOf] at e
  | .dct _ _ :: _, _, _, e, _ => by simp [strsOf] at e
  | .ref _ :: _, _, _, e, _ => by simp [strsOf] at e
  | .glo _ :: _, _, _, e, _ => by simp [strsOf] at e
  | .ty _ :: _, _, _, e, _ => by simp [strsOf] at e
theorem RVs.strs {io : Ad} {H : Hp} : ∀ (bs : List (List Nat)), RVs p io H (bs.map PV.str) ((bs.map mkS).map V.str)
  | [] => by simp [RVs]
  | b :: bs => by simp only [List.map_cons, RVs, RV]; exact ⟨_, _, rfl, rfl, RVs.strs bs⟩
def vJoin : PV → List PV → Sto → Option (PV × Sto) := fun x ys m => match x, ys with
  | .str sep, [y] => match rdS y m with
    | some zs => match strsOf zs with
      | some bs => if (bs.map (·.length)).sum + bs.length * sep.length ≤ 16777216 then some (.str (TL.joinL sep bs), m) else none
      | none => none
    | none => none
  | _, _ => none
theorem m_join (hK : X.K = p.K) : MtR X "str.join" (rVM p vJoin) := by
  refine MtR_weak mt_join fun v vs H Q ⟨io, m, x, xs, rm, rv, rvs, h⟩ => ?_
  unfold vJoin at h
  split at h
  · rename_i sep y
    split at h
    · rename_i zs hzs
      split at h
      · rename_i bs hbs
        split at h
        · rename_i hz
          simp only [RVs] at rvs
          obtain ⟨w, _, rfl, ry, rfl⟩ := rvs
          obtain ⟨b, us, rfl, hb, rus⟩ := rdS_rel rm hzs ry
          have := strsOf_rel hbs rus
          subst this
          simp only [RV] at rv
          rw [← hK] at hb
          refine ⟨mkS sep, b, bs.map mkS, rv, rfl, hb, ?_, ?_⟩
          · rw [List.map_map, List.length_map, mkS_length]
            have : ((fun (x : Str) => x.length) ∘ mkS) = fun (l : List Nat) => l.length := by
              funext l
              exact mkS_length l
            rw [this]
            exact hz
          · rw [show Txt.join (mkS sep) (bs.map mkS) = mkS (TL.joinL sep bs) from SX.join_S sep bs]
            exact h H _ (.refl _ _) rm (by simp [RV])
        · exact h.elim
      · exact h.elim
    · exact h.elim
  · exact h.elim
def vSplit : PV → List PV → Sto → Option (PV × Sto) := fun x ys m => match x, ys with
  | .str a, [.str b] => if b ≠ [] ∧ b.all (· < 256) = true ∧ a.length + 2 ≤ sizeLine then some (.lst ((TL.spl b 0 [] a).map PV.str), m) else none
  | _, _ => none
theorem m_split : MtR X "str.split" (rVM p vSplit) := by
  refine MtR_weak mt_split fun v vs H Q ⟨io, m, x, xs, rm, rv, rvs, h⟩ => ?_
  unfold vSplit at h
  split at h
  · rename_i a b
    split at h
    · rename_i hz
      obtain ⟨h1, h2, h3⟩ := hz
      simp only [RVs, RV] at rvs rv
      obtain ⟨w, _, rfl, rfl, rfl⟩ := rvs
      refine ⟨mkS a, mkS b, rv, rfl, ?_, by rw [mkS_length]; exact h3, ?_⟩
      · rw [mkS_length]
        cases b with
        | nil => exact absurd rfl h1
        | cons _ _ => rfl
      · rw [show Txt.split (mkS a) (mkS b) = (TL.spl b 0 [] a).map mkS from SX.split_S h1 h2]
        intro q hq
        refine h _ (.ref q) (.laid hq) (rm.laid hq) ?_
        simp only [RV]
        exact ⟨q, _, rfl, upd_same, rm.notin hq, RVs.strs _⟩
    · exact h.elim
  · exact h.elim
end
end Mini
namespace L2
open PySem
theorem PI.weak {X : Cx} {tg e : Expr} {t t' : TI} (h : PI X tg e t) (w : ∀ σ H R, t' σ H R → t σ H R) : PI X tg e t' := ⟨fun pins s σ H R I q => h.run pins s σ H R I (w _ _ _ q)⟩
end L2
namespace Mini
open PySem L2
/-- what is walked: the items; lists of the store that must stand as they stood -/
structure Src where
  items : List PV
  gs : List (Nat × List PV)
def Src.ok (s : Src) (m : Sto) : Prop := ∀ g ∈ s.gs, rdQ (.ref g.1) m = some g.2
abbrev Fi := Env → Sto → Res Src
/-- the iterator J gives the items, as long as the guarded lists stand -/
def Feeds (p : Par) (s : Src) (J : It) (io : Ad) (H : Hp) : Prop := ∀ (i : Nat) io' H' m', Adv io H io' H' → RM p io' H' m' → s.ok m' →
  (∀ x, s.items[i]? = some x → J.go i H' ∧ ∀ v H2, J.yld i H' v H2 → Adv io' H' io' H2 ∧ RM p io' H2 m' ∧ RV p io' H2 x v) ∧ (s.items.length ≤ i → J.stop i H')
def tI (p : Par) (W : WX) (f : Fi) : TI := fun σ H R => ∃ io r m, RS p io H r σ ∧ RM p io H m ∧ PostG p W io H σ (f r m) fun s io' H' m' => ∀ J H2, Adv io' H' io' H2 → RM p io' H2 m' → Feeds p s J io' H2 → R J H2
/-- the source that a readable list is -/
def srcQ (x : PV) (m : Sto) : Option Src := match x with
  | .lst xs => some ⟨xs, []⟩
  | .ref n => match rdQ (.ref n) m with
    | some xs => some ⟨xs, [(n, xs)]⟩
    | none => none
  | _ => none
def iLst (fe : Fe) : Fi := fun r m => (fe r m).bind fun x m1 => match srcQ x m1 with
  | some s => some (.ok s, m1)
  | none => none
def iTp (fe : Fe) : Fi := fun r m => (fe r m).bind fun x m1 => match x with
  | .tup xs => some (.ok ⟨xs, []⟩, m1)
  | _ => none
def iStr (fe : Fe) : Fi := fun r m => (fe r m).bind fun x m1 => match x with
  | .str z => some (.ok ⟨z.map fun c => .str [c], []⟩, m1)
  | _ => none
/-- lo, lo + 1, .. -/
def rangeP (lo hi : Int) : List PV := (List.range (hi - lo).toNat).map fun (i : Nat) => PV.int (lo + (i : Int))
def smallR (i : Int) : Bool := decide (-(2 ^ 62) ≤ i) && decide (i < 2 ^ 62)
def iRng1 (fa : Fa) : Fi := fun r m => (fa r m).bind fun xs m1 => match xs with
  | [.int hi] => if smallR hi then some (.ok ⟨rangeP 0 hi, []⟩, m1) else none
  | _ => none
def iRng2 (fa : Fa) : Fi := fun r m => (fa r m).bind fun xs m1 => match xs with
  | [.int lo, .int hi] => if smallR lo && smallR hi then some (.ok ⟨rangeP lo hi, []⟩, m1) else none
  | _ => none
/-- enumerate of a list -/
def iEnumL (fa : Fa) : Fi := fun r m => (fa r m).bind fun xs m1 => match xs with
  | [x] => match srcQ x m1 with
    | some s => some (.ok ⟨s.items.zipIdx.map fun q => .tup [.int q.2, q.1], s.gs⟩, m1)
    | none => none
  | _ => none
def srcS (x : PV) (m : Sto) : Option Src := match x with
  | .tup xs => some ⟨xs, []⟩
  | x => srcQ x m
/-- zip of two lists or two tuples -/
def iZipL (fa : Fa) : Fi := fun r m => (fa r m).bind fun xs m1 => match xs with
  | [.tup a, .tup b] => some (.ok ⟨(a.zip b).map fun q => .tup [q.1, q.2], []⟩, m1)
  | [x, y] => match srcQ x m1, srcQ y m1 with
    | some s, some t => some (.ok ⟨(s.items.zip t.items).map fun q => .tup [q.1, q.2], s.gs ++ t.gs⟩, m1)
    | _, _ => none
  | _ => none
section
open Classical
/-- the turns of a for -/
noncomputable def loopF (s : Src) (tg : Tg) (body : Fs) : List PV → Fs
  | [], r, m => if s.ok m then some (.ok (.next r), m) else none
  | x :: xs, r, m => if s.ok m then match tg.put x r with
    | some r1 => (body r1 m).bind fun fl m1 => match fl with
      | .next r2 => loopF s tg body xs r2 m1
      | .cont r2 => loopF s tg body xs r2 m1
      | .brk r2 => some (.ok (.next r2), m1)
      | .ret v => some (.ok (.ret v), m1)
    | none => none
    else none
end
noncomputable def sFor (fi : Fi) (tg : Tg) (body : Fs) : Fs := fun r m => (fi r m).bind fun s m1 => loopF s tg body s.items r m1
/-- a while of at most n turns -/
def loopW (ft : Ft) (body : Fs) : Nat → Fs
  | 0, _, _ => none
  | n + 1, r, m => (ft r m).bind fun b m1 => if b then (body r m1).bind fun fl m2 => match fl with
      | .next r2 => loopW ft body n r2 m2
      | .cont r2 => loopW ft body n r2 m2
      | .brk r2 => some (.ok (.next r2), m2)
      | .ret v => some (.ok (.ret v), m2)
    else some (.ok (.next r), m1)
/-- the turns of a comprehension -/
def wipeE (r : Env) : List Nat → Env
  | [] => r
  | v :: vs => (wipeE r vs).set v none
section
open Classical
/-- what is raised here is not told -/
def nox {α : Type} (r : Res α) : Res α := match r with
  | some (.ex _ _, _) => none
  | r => r
noncomputable def loopC (s : Src) (tg : Tg) (ft : Ft) (fe : Fe) (vs : List Nat) (r : Env) : List PV → Sto → List PV → Res (List PV)
  | [], m, acc => if s.ok m then some (.ok acc, m) else none
  | x :: xs, m, acc => if s.ok m then match tg.put x (wipeE r vs) with
    | some r1 => (nox (ft r1 m)).bind fun b m1 => if b then (nox (fe r1 m1)).bind fun y m2 => if acc.length < sizeLine then loopC s tg ft fe vs r xs m2 (acc ++ [y]) else none
      else loopC s tg ft fe vs r xs m1 acc
    | none => none
    else none
end
noncomputable def lComp (fi : Fi) (tg : Tg) (ft : Ft) (fe : Fe) (vs : List Nat) : Fa := fun r m => (fi r m).bind fun s m1 => loopC s tg ft fe vs r s.items m1 []
def fYes : Ft := fun _ m => some (.ok true, m)
section
variable {p : Par} {W : WX} {X : Cx} {pos pos' q tpos : Pos} {tgx a b c e iter : Expr} {es elts : List Expr} {kk : Nat} {sts : List Stmt} {fe fa' : Fe} {fr : Fa} {fi : Fi} {ft : Ft} {s : Fs} {tg : Tg}
theorem srcQ_rel {io : Ad} {H : Hp} {m : Sto} {x : PV} {s : Src} {v : V} (r : RM p io H m) (e : srcQ x m = some s) (h : RV p io H x v) : ∃ a vs, v = .ref a ∧ SqL p.K H a vs ∧ RVs p io H s.items vs ∧ s.ok m ∧
    ∀ io' H' m', Adv io H io' H' → RM p io' H' m' → s.ok m' → ∃ ws, SqL p.K H' a ws ∧ RVs p io' H' s.items ws := by
  cases x with
  | lst xs =>
    simp only [srcQ, Option.some.injEq] at e
    subst e
    simp only [RV] at h
    obtain ⟨a, vs, rfl, h1, hn, h2⟩ := h
    refine ⟨a, vs, rfl, .of h1, h2, fun g hg => (nomatch hg), fun io' H' m' av _ _ => ⟨vs, .of (av.stay _ _ h1 fun z => hn (.inl z)), h2.mono av⟩⟩
  | ref n =>
    simp only [srcQ] at e
    split at e
    · rename_i xs hx
      cases e
      obtain ⟨a, vs, rfl, h1, h2⟩ := rdQ_rel r hx h
      refine ⟨a, vs, rfl, h1, h2, fun g hg => ?_, fun io' H' m' av rm' ok => ?_⟩
      · rw [List.mem_singleton.mp hg]; exact hx
      · obtain ⟨b, ws, e, h3, h4⟩ := rdQ_rel rm' (ok (n, xs) (List.mem_singleton.mpr rfl)) (h.mono av)
        cases e
        exact ⟨ws, h3, h4⟩
    · cases e
  | _ => simp [srcQ] at e
theorem i_lst (g : Good p W X) (he : PE X e (tE p W fe)) : PI X tgx e (tI p W (iLst fe)) := by
  refine (pi_list he).weak fun σ H R ⟨io, r, m, rs, rm, h⟩ => ⟨io, r, m, rs, rm, PostG.mono (PostG.bind h) fun x io1 H1 m1 a1 rm1 h1 v rv => ?_⟩
  split at h1
  · rename_i s hs
    obtain ⟨a, vs, rfl, s1, rv1, ok, fut⟩ := srcQ_rel rm1 hs rv
    refine ⟨a, rfl, ⟨vs, by rw [g.hK]; exact s1⟩, PostG.of_ok rm1 h1 _ H1 (.refl _ _) rm1 ?_⟩
    intro i io' H' m' av rm' ok'
    obtain ⟨ws, h3, h4⟩ := fut io' H' m' av rm' ok'
    rw [← g.hK] at h3
    refine ⟨fun x hx => ?_, fun hl => ⟨ws, h3, by rw [← h4.length]; exact hl⟩⟩
    obtain ⟨w, hw, rw'⟩ := h4.get hx
    refine ⟨⟨ws, w, h3, hw⟩, fun v H2 y => ?_⟩
    obtain ⟨rfl, y⟩ := y
    have := y ws h3
    rw [hw] at this
    cases this
    exact ⟨.refl _ _, rm', rw'⟩
  · exact h1.elim
theorem i_tup (g : Good p W X) (he : PE X e (tE p W fe)) : PI X tgx e (tI p W (iTp fe)) := by
  refine (pi_tup he).weak fun σ H R ⟨io, r, m, rs, rm, h⟩ => ⟨io, r, m, rs, rm, PostG.mono (PostG.bind h) fun x io1 H1 m1 a1 rm1 h1 v rv => ?_⟩
  split at h1
  · rename_i xs
    simp only [RV] at rv
    obtain ⟨a, vs, rfl, s1, rv1⟩ := rv
    refine ⟨a, rfl, ⟨vs, by rw [g.hK]; exact s1⟩, PostG.of_ok rm1 h1 _ H1 (.refl _ _) rm1 ?_⟩
    intro i io' H' m' av rm' ok'
    have h3 := av.sqT s1
    have h4 := rv1.mono av
    rw [← g.hK] at h3
    refine ⟨fun x hx => ?_, fun hl => ⟨vs, h3, by rw [← h4.length]; exact hl⟩⟩
    obtain ⟨w, hw, rw'⟩ := h4.get hx
    refine ⟨⟨vs, w, h3, hw⟩, fun v H2 y => ?_⟩
    obtain ⟨rfl, y⟩ := y
    have := y vs h3
    rw [hw] at this
    cases this
    exact ⟨.refl _ _, rm', rw'⟩
  · exact h1.elim
theorem i_str (he : PE X e (tE p W fe)) : PI X tgx e (tI p W (iStr fe)) := by
  refine (pi_str he).weak fun σ H R ⟨io, r, m, rs, rm, h⟩ => ⟨io, r, m, rs, rm, PostG.mono (PostG.bind h) fun x io1 H1 m1 a1 rm1 h1 v rv => ?_⟩
  split at h1
  · rename_i z
    simp only [RV] at rv
    refine ⟨mkS z, rv, PostG.of_ok rm1 h1 _ H1 (.refl _ _) rm1 ?_⟩
    intro i io' H' m' av rm' ok'
    have sz : (mkS z).cps.size = z.length := by simp [mkS]
    have wk := walk_str (z := mkS z)
    rw [sz] at wk
    refine ⟨fun x hx => ?_, fun hl => ?_⟩
    · rw [List.getElem?_map, Option.map_eq_some_iff] at hx
      obtain ⟨c, hc, rfl⟩ := hx
      have hi : i < z.length := (List.getElem?_eq_some_iff.mp hc).1
      refine ⟨wk.goes i H' hi trivial, fun v H2 y => ?_⟩
      obtain ⟨rfl, c', hc', rfl⟩ := wk.yields i H' v H2 hi trivial y
      have : c' = c := by
        have e1 : (mkS z).cps[i]? = z[i]? := by simp [mkS]
        rw [e1, hc] at hc'
        exact (Option.some.inj hc').symm
      subst this
      exact ⟨.refl _ _, rm', by simp [RV, mkS]⟩
    · have : (mkS z).cps.size ≤ i := by rw [sz]; simpa using hl
      exact this
  · exact h1.elim
theorem feeds_rng {io : Ad} {H : Hp} {lo hi : Int} : Feeds p ⟨rangeP lo hi, []⟩ (Itr lo (hi - lo).toNat) io H := by
  intro i io' H' m' av rm' ok'
  refine ⟨fun x hx => ?_, fun hl => ?_⟩
  · unfold rangeP at hx
    rw [List.getElem?_map, Option.map_eq_some_iff] at hx
    obtain ⟨c, hc, rfl⟩ := hx
    have hi' : i < (hi - lo).toNat := by
      have := (List.getElem?_eq_some_iff.mp hc).1
      simpa using this
    have : c = i := by
      rw [List.getElem?_range hi'] at hc
      exact (Option.some.inj hc).symm
    subst this
    refine ⟨hi', fun v H2 y => ?_⟩
    obtain ⟨rfl, rfl⟩ := y
    exact ⟨.refl _ _, rm', by simp [RV]⟩
  · show (hi - lo).toNat ≤ i
    have : (rangeP lo hi).length = (hi - lo).toNat := by simp [rangeP]
    rw [← this]
    exact hl
theorem i_rng1 (hg : Gl X "range") (hm : X.mg "range" = none) (ha : PA X [a] (tAr p W fr)) (hs : starEach [a] X.env = [(false, eval a X.env)] := by rfl) : PI X tgx (.Call (.Name "range" q) [a] [] pos) (tI p W (iRng1 fr)) := by
  refine (pi_range1 hg hm ha hs).weak fun σ H R ⟨io, r, m, rs, rm, h⟩ => ⟨io, r, m, rs, rm, PostG.mono (PostG.bind h) fun xs io1 H1 m1 a1 rm1 h1 vs rvs => ?_⟩
  split at h1
  · split at h1
    · rename_i hi hs
      simp only [RVs, RV] at rvs
      obtain ⟨_, _, rfl, rfl, rfl⟩ := rvs
      simp only [smallR, Bool.and_eq_true, decide_eq_true_eq] at hs
      refine ⟨hi, rfl, hs.1, hs.2, ?_⟩
      have := PostG.of_ok rm1 h1 (Itr 0 (hi - 0).toNat) H1 (.refl _ _) rm1 feeds_rng
      simpa using this
    · exact h1.elim
  · exact h1.elim
theorem i_rng2 (hg : Gl X "range") (hm : X.mg "range" = none) (ha : PA X [a, b] (tAr p W fr)) (hs : starEach [a, b] X.env = [(false, eval a X.env), (false, eval b X.env)] := by rfl) (hs2 : starEach [b] X.env = [(false, eval b X.env)] := by rfl) : PI X tgx (.Call (.Name "range" q) [a, b] [] pos) (tI p W (iRng2 fr)) := by
  refine (pi_range2 hg hm ha hs hs2).weak fun σ H R ⟨io, r, m, rs, rm, h⟩ => ⟨io, r, m, rs, rm, PostG.mono (PostG.bind h) fun xs io1 H1 m1 a1 rm1 h1 vs rvs => ?_⟩
  split at h1
  · split at h1
    · rename_i lo hi hs
      simp only [RVs, RV] at rvs
      obtain ⟨_, _, rfl, rfl, _, _, rfl, rfl, rfl⟩ := rvs
      simp only [smallR, Bool.and_eq_true, decide_eq_true_eq] at hs
      exact ⟨lo, hi, rfl, ⟨hs.1.1, hs.1.2, hs.2.1, hs.2.2⟩, PostG.of_ok rm1 h1 (Itr lo (hi - lo).toNat) H1 (.refl _ _) rm1 feeds_rng⟩
    · exact h1.elim
  · exact h1.elim
/-- a new pair -/
theorem pair_yld {io : Ad} {H : Hp} {m : Sto} {x y : PV} {v w : V} {T : Addr} (rm : RM p io H m) (hT : H T = none) (hx : RV p io H x v) (hy : RV p io H y w) :
    Adv io H io (upd H T (.tup [v, w])) ∧ RM p io (upd H T (.tup [v, w])) m ∧ RV p io (upd H T (.tup [v, w])) (.tup [x, y]) (.ref T) := by
  refine ⟨.laid hT, rm.laid hT, ?_⟩
  simp only [RV, RVs]
  exact ⟨T, _, rfl, .of upd_same, v, _, rfl, hx.mono (.laid hT), w, _, rfl, hy.mono (.laid hT), rfl⟩
theorem i_enumL (g : Good p W X) (hg : Gl X "enumerate") (hm : X.mg "enumerate" = none) (ha : PA X [e] (tAr p W fr)) (hs : starEach [e] X.env = [(false, eval e X.env)] := by rfl) : PI X (.Tuple elts kk tpos) (.Call (.Name "enumerate" q) [e] [] pos) (tI p W (iEnumL fr)) := by
  refine (pi_enum hg hm ha hs).weak fun σ H R ⟨io, r, m, rs, rm, h⟩ => ⟨io, r, m, rs, rm, PostG.mono (PostG.bind h) fun xs io1 H1 m1 a1 rm1 h1 vs rvs => ?_⟩
  split at h1
  case h_2 => exact h1.elim
  split at h1
  case h_2 => exact h1.elim
  rename_i s hs
  simp only [RVs] at rvs
  obtain ⟨v, _, rfl, rv, rfl⟩ := rvs
  obtain ⟨a, vs, rfl, s1, rv1, ok, fut⟩ := srcQ_rel rm1 hs rv
  refine ⟨a, vs, rfl, by rw [g.hK]; exact s1, PostG.of_ok rm1 h1 _ H1 (.refl _ _) rm1 ?_⟩
  intro i io' H' m' av rm' ok'
  obtain ⟨ws, h3, h4⟩ := fut io' H' m' av rm' ok'
  rw [← g.hK] at h3
  have wk := walk_enum (K := X.K) (a := a) (xs := ws)
  refine ⟨fun x hx => ?_, fun hl => ⟨ws, h3, by rw [← h4.length]; simpa using hl⟩⟩
  rw [List.getElem?_map, Option.map_eq_some_iff] at hx
  obtain ⟨⟨y, k⟩, hy, rfl⟩ := hx
  rw [List.getElem?_zipIdx, Option.map_eq_some_iff] at hy
  obtain ⟨y', hy, e⟩ := hy
  simp only [Prod.mk.injEq] at e
  obtain ⟨rfl, rfl⟩ := e
  obtain ⟨w, hw, rw'⟩ := h4.get hy
  have hi : i < ws.length := (List.getElem?_eq_some_iff.mp hw).1
  refine ⟨wk.goes i H' hi h3, fun v H2 yy => ?_⟩
  obtain ⟨T, x1, x2, rfl, hT, rfl, e1, e2⟩ := wk.yields i H' v H2 hi h3 yy
  cases e1
  have e2 : ws[i]? = some x2 := e2
  rw [hw] at e2
  cases e2
  have := pair_yld (x := .int ((0 + i : Nat) : Int)) (y := y') (v := .int (i : Nat)) rm' hT (by simp [RV]) rw'
  exact this
theorem i_zipL (g : Good p W X) (hg : Gl X "zip") (hm : X.mg "zip" = none) (ha : PA X [a, b] (tAr p W fr))
    (hs : starEach [a, b] X.env = (false, eval a X.env) :: starEach [b] X.env := by rfl) (hpl : (backTo pos (starEach [b] X.env)).any (·.1) = false := by rfl) : PI X (.Tuple elts kk tpos) (.Call (.Name "zip" q) [a, b] [] pos) (tI p W (iZipL fr)) := by
  refine (RZ.pi_zipA hg hm ha hs hpl).weak fun σ H R ⟨io, r, m, rs, rm, h⟩ => ⟨io, r, m, rs, rm, PostG.mono (PostG.bind h) fun xs io1 H1 m1 a1 rm1 h1 vs rvs => ?_⟩
  split at h1
  · rename_i xs ys
    simp only [RVs, RV] at rvs
    obtain ⟨_, _, rfl, ⟨a, vs, rfl, s1, r1⟩, _, _, rfl, ⟨b, ws, rfl, s2, r2⟩, rfl⟩ := rvs
    refine ⟨a, b, vs, ws, rfl, .inr ⟨by rw [g.hK]; exact s1, by rw [g.hK]; exact s2, PostG.of_ok rm1 h1 _ H1 (.refl _ _) rm1 ?_⟩⟩
    intro i io' H' m' av rm' ok'
    have h3 := av.sqT s1
    have h3' := av.sqT s2
    have h4 := r1.mono av
    have h4' := r2.mono av
    rw [← g.hK] at h3 h3'
    refine ⟨fun x hx => ?_, fun hl => ⟨vs, ws, h3, h3', ?_⟩⟩
    · rw [List.getElem?_map, Option.map_eq_some_iff] at hx
      obtain ⟨⟨x1, x2⟩, hx, rfl⟩ := hx
      rw [List.getElem?_zip_eq_some] at hx
      obtain ⟨v1, hv1, rv1⟩ := h4.get hx.1
      obtain ⟨v2, hv2, rv2⟩ := h4'.get hx.2
      refine ⟨⟨vs, ws, v1, v2, h3, h3', hv1, hv2⟩, fun v H2 yy => ?_⟩
      obtain ⟨T, y1, y2, rfl, hT, rfl, e1, e2⟩ := yy
      have e1 := e1 vs h3
      have e2 := e2 ws h3'
      rw [hv1] at e1
      rw [hv2] at e2
      cases e1
      cases e2
      exact pair_yld rm' hT rv1 rv2
    · rw [← h4.length, ← h4'.length]
      simp only [List.length_map, List.length_zip] at hl
      omega
  · split at h1
    · rename_i x y _ s t hs ht
      simp only [RVs] at rvs
      obtain ⟨v, _, rfl, rv, w, _, rfl, rw', rfl⟩ := rvs
      obtain ⟨a, vs, rfl, s1, r1, ok1, fut1⟩ := srcQ_rel rm1 hs rv
      obtain ⟨b, ws, rfl, s2, r2, ok2, fut2⟩ := srcQ_rel rm1 ht rw'
      refine ⟨a, b, vs, ws, rfl, .inl ⟨by rw [g.hK]; exact s1, by rw [g.hK]; exact s2, PostG.of_ok rm1 h1 _ H1 (.refl _ _) rm1 ?_⟩⟩
      intro i io' H' m' av rm' ok'
      obtain ⟨vs', h3, h4⟩ := fut1 io' H' m' av rm' fun g hg => ok' g (List.mem_append_left _ hg)
      obtain ⟨ws', h3', h4'⟩ := fut2 io' H' m' av rm' fun g hg => ok' g (List.mem_append_right _ hg)
      rw [← g.hK] at h3 h3'
      refine ⟨fun x hx => ?_, fun hl => ⟨vs', ws', h3, h3', ?_⟩⟩
      · rw [List.getElem?_map, Option.map_eq_some_iff] at hx
        obtain ⟨⟨x1, x2⟩, hx, rfl⟩ := hx
        rw [List.getElem?_zip_eq_some] at hx
        obtain ⟨v1, hv1, rv1⟩ := h4.get hx.1
        obtain ⟨v2, hv2, rv2⟩ := h4'.get hx.2
        refine ⟨⟨vs', ws', v1, v2, h3, h3', hv1, hv2⟩, fun v H2 yy => ?_⟩
        obtain ⟨T, y1, y2, rfl, hT, rfl, e1, e2⟩ := yy
        have e1 := e1 vs' h3
        have e2 := e2 ws' h3'
        rw [hv1] at e1
        rw [hv2] at e2
        cases e1
        cases e2
        exact pair_yld rm' hT rv1 rv2
      · rw [← h4.length, ← h4'.length]
        simp only [List.length_map, List.length_zip] at hl
        omega
    · exact h1.elim
  · exact h1.elim
/-! ### for, while -/
theorem loopF_nil {s : Src} {body : Fs} {r : Env} {m : Sto} {io : Ad} {H : Hp} {D : Ends} (h : PostS p W io H (loopF s tg body [] r m) D) : s.ok m ∧ PostS p W io H (some (.ok (.next r), m)) D := by
  unfold loopF at h
  split at h
  · rename_i hk
    exact ⟨hk, h⟩
  · exact h.elim
theorem loopF_cons {s : Src} {body : Fs} {x : PV} {xs : List PV} {r : Env} {m : Sto} {io : Ad} {H : Hp} {D : Ends} (h : PostS p W io H (loopF s tg body (x :: xs) r m) D) : s.ok m ∧ ∃ r1, tg.put x r = some r1 ∧ PostS p W io H ((body r1 m).bind fun fl m1 => match fl with
      | .next r2 => loopF s tg body xs r2 m1
      | .cont r2 => loopF s tg body xs r2 m1
      | .brk r2 => some (.ok (.next r2), m1)
      | .ret v => some (.ok (.ret v), m1)) D := by
  unfold loopF at h
  split at h
  · rename_i hk
    refine ⟨hk, ?_⟩
    match e : tg.put x r, h with
    | none, h => exact h.elim
    | some r1, h => exact ⟨r1, rfl, h⟩
  · exact h.elim
theorem s_for (g : Good p W X) (hi : PI X tgx iter (tI p W fi)) (hg : PG X tgx (gT p tg)) (hb : PSs X sts (tS p W s)) (hs : ∀ x, foldedSetIterable iter X.env x = pure x := by intro _; rfl) : PS X (.For tgx iter sts [] pos) (tS p W (sFor fi tg s)) := by
  refine (ps_for g.po g.calm hi hg hb hs).weak fun D σ H ⟨io, r, m, rs, rm, h⟩ => ⟨io, r, m, rs, rm, PostG.mono (PostS.bind h) fun src io1 H1 m1 a1 rm1 h1 J H2 a2 rm2 fd => ?_⟩
  refine ⟨fun i k σ' H' => k = src.items.length - i ∧ i ≤ src.items.length ∧ ∃ io' r' m', Adv io1 H2 io' H' ∧ RS p io' H' r' σ' ∧ RM p io' H' m' ∧ PostS p W io' H' (loopF src tg s (src.items.drop i) r' m') D,
    ⟨src.items.length, by simp, Nat.zero_le _, io1, r, m1, .refl _ _, (rs.mono a1).mono a2, rm2, by simpa using PostS.adv a2 h1⟩, ?_⟩
  rintro i k σ' H' ⟨rfl, hi', io', r', m', av, rs', rm', hp⟩
  by_cases hl : i < src.items.length
  · rw [List.drop_eq_getElem_cons hl] at hp
    obtain ⟨ok, r1, hput, hp⟩ := loopF_cons hp
    obtain ⟨go, yl⟩ := (fd i io' H' m' av rm' ok).1 src.items[i] (by simp [hl])
    refine .inr ⟨go, fun σ2 H2' => i + 1 ≤ src.items.length ∧ ∃ io' r' m', Adv io1 H2 io' H2' ∧ RS p io' H2' r' σ2 ∧ RM p io' H2' m' ∧ PostS p W io' H2' (loopF src tg s (src.items.drop (i + 1)) r' m') D,
      fun σ2 H2' q => ⟨src.items.length - (i + 1), by omega, rfl, q.1, q.2⟩, fun v H3 y => ?_⟩
    obtain ⟨a3, rm3, rv3⟩ := yl v H3 y
    refine ⟨io', r', m', src.items[i], rs'.mono a3, rm3, rv3, ?_⟩
    rw [hput]
    intro H4 σ4 a4 rm4 rs4 _ _
    refine ⟨io', r1, m', rs4, rm4, ?_⟩
    have hp4 := PostS.adv (a3.trans a4) hp
    match e : s r1 m', hp4 with
    | none, hp4 => exact hp4
    | some (.ex c fs, m5), hp4 => exact hp4
    | some (.ok (.next r5), m5), hp4 => exact fun io5 H5 σ5 a5 rm5 rs5 => ⟨hl, io5, r5, m5, av.trans (a3.trans (a4.trans a5)), rs5, rm5, PostS.adv a5 hp4⟩
    | some (.ok (.cont r5), m5), hp4 => exact fun io5 H5 σ5 a5 rm5 rs5 => ⟨hl, io5, r5, m5, av.trans (a3.trans (a4.trans a5)), rs5, rm5, PostS.adv a5 hp4⟩
    | some (.ok (.brk r5), m5), hp4 => exact fun io5 H5 σ5 a5 rm5 rs5 => hp4 io5 H5 σ5 a5 rm5 rs5
    | some (.ok (.ret x), m5), hp4 => exact hp4
  · have e : i = src.items.length := by omega
    subst e
    rw [List.drop_length] at hp
    obtain ⟨ok, hp⟩ := loopF_nil hp
    exact .inl ⟨(fd _ io' H' m' av rm' ok).2 (Nat.le_refl _), hp io' H' σ' (.refl _ _) rm' rs'⟩
theorem s_while {n : Nat} (g : Good p W X) (hc : PT X c (tT p W ft)) (hb : PSs X sts (tS p W s)) : PS X (.While c sts [] pos) (tS p W (loopW ft s n)) := by
  refine (ps_while g.po hc hb).weak fun D σ H ⟨io, r, m, rs, rm, h⟩ => ?_
  refine ⟨fun k σ' H' => ∃ io' r' m', RS p io' H' r' σ' ∧ RM p io' H' m' ∧ PostS p W io' H' (loopW ft s k r' m') D, ⟨n, io, r, m, rs, rm, h⟩, ?_⟩
  rintro k σ' H' ⟨io', r', m', rs', rm', hp⟩
  cases k with
  | zero => exact hp.elim
  | succ k =>
    refine ⟨io', r', m', rs', rm', PostG.mono (PostS.bind hp) fun b io1 H1 m1 a1 rm1 h1 => ?_⟩
    cases b with
    | false => exact h1 io1 H1 σ' (.refl _ _) rm1 (rs'.mono a1)
    | true =>
      rw [if_pos rfl]
      rw [if_pos rfl] at h1
      refine ⟨fun σ2 H2' => ∃ io' r' m', RS p io' H2' r' σ2 ∧ RM p io' H2' m' ∧ PostS p W io' H2' (loopW ft s k r' m') D, fun σ2 H2 q => ⟨k, Nat.lt_succ_self k, q⟩, ?_⟩
      refine ⟨io1, r', m1, rs'.mono a1, rm1, ?_⟩
      match e : s r' m1, h1 with
      | none, h1 => exact h1
      | some (.ex c fs, m5), h1 => exact h1
      | some (.ok (.next r5), m5), h1 => exact fun io5 H5 σ5 a5 rm5 rs5 => ⟨io5, r5, m5, rs5, rm5, PostS.adv a5 h1⟩
      | some (.ok (.cont r5), m5), h1 => exact fun io5 H5 σ5 a5 rm5 rs5 => ⟨io5, r5, m5, rs5, rm5, PostS.adv a5 h1⟩
      | some (.ok (.brk r5), m5), h1 => exact fun io5 H5 σ5 a5 rm5 rs5 => h1 io5 H5 σ5 a5 rm5 rs5
      | some (.ok (.ret x), m5), h1 => exact h1
end
end Mini
namespace L2
open PySem
theorem PTs.weak {X : Cx} {e : List Expr} {t t' : TT} (h : PTs X e t) (w : ∀ σ H Q, t' σ H Q → t σ H Q) : PTs X e t' := ⟨fun pins s σ H Q I q => h.run pins s σ H Q I (w _ _ _ q)⟩
end L2
namespace Mini
open PySem L2
/-! ### comprehensions -/
section
variable {p : Par} {io io' : Ad} {H H' : Hp} {m : Sto} {D : Addr}
theorem Adv.hidden (hD : H D = none) (o : HO) : Adv io H (io.hide D) (upd H D o) := by
  have l := Adv.laid (io := io) (o := o) hD
  exact ⟨⟨[], by simp [Ad.hide], by simp⟩, ⟨[D], rfl, fun a ha => by rw [List.mem_singleton.mp ha]; exact hD⟩, l.tups, l.frzs, l.stay, l.dom⟩
theorem RO.hide (hD : H D = none) {vs : List V} {o : Ob} {a : Addr} (h : RO p io H o a) : RO p (io.hide D) (upd H D (.lst vs)) o a := by
  have ne : a ≠ D := fun z => RO.live h (z ▸ hD)
  cases o with
  | lst xs =>
    obtain ⟨ws, h1, h2⟩ := h
    exact ⟨ws, by rw [upd_ne ne]; exact h1, h2.mono (.hidden hD _)⟩
  | rol xs =>
    obtain ⟨h0, h0', ws, h1, h2⟩ := h
    refine ⟨by rw [upd_ne ne]; exact h0, by rw [upd_ne ne]; exact h0', ws, ?_, h2.mono (.hidden hD _)⟩
    rcases h1 with ⟨ob, h1⟩ | h1
    · exact .inl ⟨ob, by rw [upd_ne ne]; exact h1⟩
    · exact .inr h1
  | ins c fs =>
    obtain ⟨dx, vfs, h1, h2⟩ := h
    exact ⟨dx, vfs, by rw [upd_ne ne]; exact h1, h2.mono (.hidden hD _)⟩
theorem RM.hide (hD : H D = none) (vs : List V) (rm : RM p io H m) : RM p (io.hide D) (upd H D (.lst vs)) m := by
  refine ⟨rm.len, rm.nd, fun n o a h1 h2 => RO.hide hD (rm.ob n o a h1 h2), fun a ha => ?_⟩
  rcases List.mem_cons.mp ha with rfl | ha
  · exact ⟨fun z => rm.notin hD (.inl z), by rw [upd_same]; simp, fun zs => by rw [upd_same]; simp⟩
  · obtain ⟨h1, h2, h3⟩ := rm.sep a ha
    have ne : a ≠ D := fun z => h2 (z ▸ hD)
    exact ⟨h1, by rw [upd_ne ne]; exact h2, by rw [upd_ne ne]; exact h3⟩
/-- fewer are hidden -/
structure Less (io io2 : Ad) : Prop where
  ix : io2.ix = io.ix
  hd : ∀ a ∈ io2.hd, a ∈ io.hd
theorem Less.has {io io2 : Ad} (l : Less io io2) {a : Addr} (n : ¬ io.has a) : ¬ io2.has a := fun z => n (z.elim (fun z => .inl (l.ix ▸ z)) fun z => .inr (l.hd a z))
mutual
theorem RV.less {io2 : Ad} (l : Less io io2) : ∀ {x : PV} {v : V}, RV p io H x v → RV p io2 H x v
  | .non, _, h => by simpa [RV] using h
  | .bl b, _, h => by simpa [RV] using h
  | .int i, _, h => by simpa [RV] using h
  | .str x, _, h => by simpa [RV] using h
  | .tup xs, _, h => by
    simp only [RV] at h ⊢
    obtain ⟨b, vs, e, s, r⟩ := h
    exact ⟨b, vs, e, s, RVs.less l r⟩
  | .lst xs, _, h => by
    simp only [RV] at h ⊢
    obtain ⟨b, vs, e, s, n, r⟩ := h
    exact ⟨b, vs, e, s, l.has n, RVs.less l r⟩
  | .dct ks xs, _, h => by
    simp only [RV] at h ⊢
    obtain ⟨b, vs, e, s, n, k, r⟩ := h
    exact ⟨b, vs, e, s, l.has n, k, RVs.less l r⟩
  | .ref n, _, h => by
    simp only [RV] at h ⊢
    rw [l.ix]
    exact h
  | .glo k, _, h => by simpa [RV] using h
  | .ty n, _, h => by simpa [RV] using h
theorem RVs.less {io2 : Ad} (l : Less io io2) : ∀ {xs : List PV} {vs : List V}, RVs p io H xs vs → RVs p io2 H xs vs
  | [], _, h => by simpa [RVs] using h
  | x :: xs, _, h => by
    simp only [RVs] at h ⊢
    obtain ⟨v, r, e, h1, h2⟩ := h
    exact ⟨v, r, e, RV.less l h1, RVs.less l h2⟩
end
/-- what was hidden becomes an object of the store -/
structure Join (io io2 : Ad) (D : Addr) : Prop where
  ix : io2.ix = io.ix ++ [D]
  hd : ∀ a ∈ io2.hd, a ∈ io.hd
  at_ : D ∈ io.hd
theorem Join.has {io io2 : Ad} (l : Join io io2 D) {a : Addr} (n : ¬ io.has a) : ¬ io2.has a := fun z => n (z.elim (fun z => by
  rw [l.ix] at z
  rcases List.mem_append.mp z with z | z
  · exact .inl z
  · exact .inr (by rw [List.mem_singleton.mp z]; exact l.at_)) fun z => .inr (l.hd a z))
mutual
theorem RV.join {io2 : Ad} (l : Join io io2 D) : ∀ {x : PV} {v : V}, RV p io H x v → RV p io2 H x v
  | .non, _, h => by simpa [RV] using h
  | .bl b, _, h => by simpa [RV] using h
  | .int i, _, h => by simpa [RV] using h
  | .str x, _, h => by simpa [RV] using h
  | .tup xs, _, h => by
    simp only [RV] at h ⊢
    obtain ⟨b, vs, e, s, r⟩ := h
    exact ⟨b, vs, e, s, RVs.join l r⟩
  | .lst xs, _, h => by
    simp only [RV] at h ⊢
    obtain ⟨b, vs, e, s, n, r⟩ := h
    exact ⟨b, vs, e, s, l.has n, RVs.join l r⟩
  | .dct ks xs, _, h => by
    simp only [RV] at h ⊢
    obtain ⟨b, vs, e, s, n, k, r⟩ := h
    exact ⟨b, vs, e, s, l.has n, k, RVs.join l r⟩
  | .ref n, _, h => by
    simp only [RV] at h ⊢
    obtain ⟨a, e, h⟩ := h
    refine ⟨a, e, ?_⟩
    rw [l.ix, List.getElem?_append_left (List.getElem?_eq_some_iff.mp h).1]
    exact h
  | .glo k, _, h => by simpa [RV] using h
  | .ty n, _, h => by simpa [RV] using h
theorem RVs.join {io2 : Ad} (l : Join io io2 D) : ∀ {xs : List PV} {vs : List V}, RVs p io H xs vs → RVs p io2 H xs vs
  | [], _, h => by simpa [RVs] using h
  | x :: xs, _, h => by
    simp only [RVs] at h ⊢
    obtain ⟨v, r, e, h1, h2⟩ := h
    exact ⟨v, r, e, RV.join l h1, RVs.join l h2⟩
end
theorem RFs.less {io2 : Ad} (l : Less io io2) : ∀ {xs : List (String × PV)} {vs : List (Str × V)}, RFs p io H xs vs → RFs p io2 H xs vs
  | [], _, h => by simpa [RFs] using h
  | (k, x) :: xs, _, h => by
    simp only [RFs] at h ⊢
    obtain ⟨v, r, e, h1, h2⟩ := h
    exact ⟨v, r, e, h1.less l, RFs.less l h2⟩
theorem RFs.join {io2 : Ad} (l : Join io io2 D) : ∀ {xs : List (String × PV)} {vs : List (Str × V)}, RFs p io H xs vs → RFs p io2 H xs vs
  | [], _, h => by simpa [RFs] using h
  | (k, x) :: xs, _, h => by
    simp only [RFs] at h ⊢
    obtain ⟨v, r, e, h1, h2⟩ := h
    exact ⟨v, r, e, h1.join l, RFs.join l h2⟩
theorem RO.less {io2 : Ad} (l : Less io io2) {o : Ob} {a : Addr} (h : RO p io H o a) : RO p io2 H o a := by
  cases o with
  | lst xs => obtain ⟨ws, h1, h2⟩ := h; exact ⟨ws, h1, h2.less l⟩
  | rol xs => obtain ⟨h0, h0', ws, h1, h2⟩ := h; exact ⟨h0, h0', ws, h1, h2.less l⟩
  | ins c fs => obtain ⟨dx, vfs, h1, h2⟩ := h; exact ⟨dx, vfs, h1, h2.less l⟩
theorem RO.join {io2 : Ad} (l : Join io io2 D) {o : Ob} {a : Addr} (h : RO p io H o a) : RO p io2 H o a := by
  cases o with
  | lst xs => obtain ⟨ws, h1, h2⟩ := h; exact ⟨ws, h1, h2.join l⟩
  | rol xs => obtain ⟨h0, h0', ws, h1, h2⟩ := h; exact ⟨h0, h0', ws, h1, h2.join l⟩
  | ins c fs => obtain ⟨dx, vfs, h1, h2⟩ := h; exact ⟨dx, vfs, h1, h2.join l⟩
theorem RM.less {io2 : Ad} (l : Less io io2) (rm : RM p io H m) : RM p io2 H m := ⟨by rw [l.ix]; exact rm.len, by rw [l.ix]; exact rm.nd, fun n o a h1 h2 => RO.less l (rm.ob n o a h1 (by rw [← l.ix]; exact h2)), fun a ha => by
  rw [l.ix]
  exact rm.sep a (l.hd a ha)⟩
theorem RM.join {io2 : Ad} (l : Join io io2 D) {xs : List PV} {vs : List V} (rm : RM p io H m) (hD : H D = some (.lst vs)) (rv : RVs p io H xs vs) (hn : D ∉ io2.hd) : RM p io2 H (m ++ [.lst xs]) := by
  have hns := (rm.sep D l.at_).1
  refine ⟨?_, ?_, fun n o a h1 h2 => ?_, fun a ha => ?_⟩
  · rw [l.ix]
    simp [rm.len]
  · rw [l.ix, List.nodup_append]
    refine ⟨rm.nd, by simp, fun a ha b hb e => ?_⟩
    subst e
    rw [List.mem_singleton.mp hb] at ha
    exact hns ha
  · rw [l.ix] at h2
    by_cases hl : n < m.length
    · rw [List.getElem?_append_left hl] at h1
      rw [List.getElem?_append_left (by rw [rm.len]; exact hl)] at h2
      exact RO.join l (rm.ob n o a h1 h2)
    · rw [List.getElem?_append_right (by omega)] at h1
      rw [List.getElem?_append_right (by rw [rm.len]; omega)] at h2
      have e0 : n - m.length = 0 := by
        have := (List.getElem?_eq_some_iff.mp h1).1
        simp at this
        omega
      rw [e0] at h1
      rw [rm.len, e0] at h2
      simp at h1 h2
      subst h1 h2
      exact ⟨vs, hD, rv.join l⟩
  · obtain ⟨h1, h2, h3⟩ := rm.sep a (l.hd a ha)
    refine ⟨fun hc => ?_, h2, h3⟩
    rw [l.ix] at hc
    rcases List.mem_append.mp hc with z | z
    · exact h1 z
    · rw [List.mem_singleton.mp z] at ha
      exact hn ha
theorem wipe_get (σ : St) (vs : List Nat) (j : Nat) (h : j ∉ vs) : (wipe σ vs)[j]? = σ[j]? := by
  induction vs with
  | nil => rfl
  | cons v vs ih =>
    simp only [List.mem_cons, not_or] at h
    unfold wipe
    rw [List.getElem?_set_ne (Ne.symm h.1), ih h.2]
theorem wipeE_length (r : Env) : ∀ vs : List Nat, (wipeE r vs).length = r.length
  | [] => rfl
  | v :: vs => by unfold wipeE; rw [List.length_set, wipeE_length r vs]
theorem RS.wipe {r : Env} {σ : St} (h : RS p io H r σ) : ∀ vs : List Nat, RS p io H (wipeE r vs) (L2.wipe σ vs)
  | [] => h
  | v :: vs => by
    have ih := RS.wipe h vs
    unfold wipeE L2.wipe
    refine ⟨by simp [ih.len], fun i x e => ?_⟩
    by_cases hv : v = i
    · subst hv
      by_cases hl : v < (wipeE r vs).length
      · rw [List.getElem?_set_self hl] at e; cases e
      · rw [List.getElem?_eq_none (by simpa using hl)] at e; cases e
    · rw [List.getElem?_set_ne hv] at e ⊢
      exact ih.at_ i x e
theorem wipe_same {σ σ' : St} (vs : List Nat) (hl : σ'.length = σ.length) (h : ∀ j, j ∉ vs → σ'[j]? = (L2.wipe σ vs)[j]?) : L2.wipe σ' vs = L2.wipe σ vs := by
  apply List.ext_getElem?
  intro j
  by_cases hj : j ∈ vs
  · have key : ∀ τ : St, (L2.wipe τ vs)[j]? = if j < τ.length then some none else none := by
      intro τ
      clear h hl
      induction vs with
      | nil => cases hj
      | cons v vs ih =>
        unfold L2.wipe
        by_cases hv : v = j
        · subst hv
          by_cases hl : v < τ.length
          · rw [List.getElem?_set_self (by rw [wipe_length]; exact hl), if_pos hl]
          · rw [List.getElem?_eq_none (by rw [List.length_set, wipe_length]; omega), if_neg hl]
        · rw [List.getElem?_set_ne hv]
          rcases List.mem_cons.mp hj with z | z
          · exact absurd z.symm hv
          · exact ih z
    rw [key, key, hl]
  · rw [wipe_get σ' vs j hj, h j hj]
end
section
variable {p : Par} {W : WX} {X : Cx} {pos pos' q tpos : Pos} {tgx a b c e elt iter : Expr} {ifs : List Expr} {fe : Fe} {fi : Fi} {ft : Ft} {tg : Tg} {own : List (Str × Nat)} {scope : Scope}
/-- within a comprehension nothing is raised -/
abbrev W0 : WX := fun _ _ _ _ => False
theorem Good.blk (g : Good p W X) (s : Shared) (H : Hp) (scope : Scope) (cenv : PySem.Env) (fp : List Addr) : Good p W0 (X.blk s H scope cenv fp) := ⟨g.hK, g.nd, g.calm, PassesOwn.never, g.hu⟩
theorem loopC_nil {s : Src} {vs : List Nat} {r : Env} {m : Sto} {acc : List PV} {io : Ad} {H : Hp} {σ : St} {P : List PV → Ad → Hp → Sto → Prop} (h : PostG p W io H σ (loopC s tg ft fe vs r [] m acc) P) : s.ok m ∧ PostG p W io H σ (some (.ok acc, m)) P := by
  unfold loopC at h
  split at h
  · rename_i hk
    exact ⟨hk, h⟩
  · exact h.elim
theorem loopC_cons {s : Src} {vs : List Nat} {x : PV} {xs : List PV} {r : Env} {m : Sto} {acc : List PV} {io : Ad} {H : Hp} {σ : St} {P : List PV → Ad → Hp → Sto → Prop} (h : PostG p W io H σ (loopC s tg ft fe vs r (x :: xs) m acc) P) : s.ok m ∧ ∃ r1, tg.put x (wipeE r vs) = some r1 ∧
    PostG p W io H σ ((nox (ft r1 m)).bind fun b m1 => if b then (nox (fe r1 m1)).bind fun y m2 => if acc.length < sizeLine then loopC s tg ft fe vs r xs m2 (acc ++ [y]) else none
      else loopC s tg ft fe vs r xs m1 acc) P := by
  unfold loopC at h
  split at h
  · rename_i hk
    refine ⟨hk, ?_⟩
    match e : tg.put x (wipeE r vs), h with
    | none, h => exact h.elim
    | some r1, h => exact ⟨r1, rfl, h⟩
  · exact h.elim
/-- what is raised within is not told: the wish may be any -/
theorem PostG.nox {α β : Type} {io : Ad} {H : Hp} {σ σ' : St} {r : Res α} {k : α → Sto → Res β} {P : β → Ad → Hp → Sto → Prop} (h : PostG p W io H σ ((Mini.nox r).bind k) P) :
    PostG p W0 io H σ' r fun x io1 H1 m1 => PostG p W io1 H1 σ (k x m1) P := by
  match r, h with
  | none, h => exact h
  | some (.ok x, m), h => exact fun io1 H1 a rm => PostG.adv a h
  | some (.ex c fs, m), h => exact h.elim
theorem t_yes : PTs X [] (tT p W fYes) := pts_nil.weak fun σ H Q ⟨io, r, m, rs, rm, h⟩ => PostG.of_ok rm h
theorem t_one (h : PT X c (tT p W ft)) : PTs X [c] (tT p W ft) := pts_one h
/-- a hidden list changes -/
theorem Go.poke {io : Ad} {H : Hp} {D : Addr} {ws ws' : List V} (hD : D ∈ io.hd) (h : H D = some (.lst ws)) : Go io H io (upd H D (.lst ws')) := by
  refine ⟨⟨[], by simp, by simp⟩, ⟨[], by simp, by simp⟩, fun a xs e => ?_, fun a o u e => ?_, fun a o e n => ?_⟩
  · rw [upd_ne fun (z : a = D) => by rw [z, h] at e; cases e]; exact e
  · rw [upd_ne fun (z : a = D) => by rw [z, h] at e; cases e]; exact e
  · rw [upd_ne fun (z : a = D) => n (.inr (by rw [z]; exact hD))]; exact e
theorem RM.poke {io : Ad} {H : Hp} {m : Sto} {D : Addr} {ws ws' : List V} (hD : D ∈ io.hd) (h : H D = some (.lst ws)) (rm : RM p io H m) : RM p io (upd H D (.lst ws')) m := by
  have gg : Go io H io (upd H D (.lst ws')) := .poke hD h
  refine ⟨rm.len, rm.nd, fun n o a h1 h2 => ?_, fun a ha => ?_⟩
  · have ne : a ≠ D := fun z => (rm.sep D hD).1 (by rw [← z]; exact List.mem_of_getElem? h2)
    have q := rm.ob n o a h1 h2
    cases o with
    | lst xs => obtain ⟨us, h1, h2⟩ := q; exact ⟨us, by rw [upd_ne ne]; exact h1, h2.go gg⟩
    | rol xs =>
      obtain ⟨h0, h0', us, h1, h2⟩ := q
      refine ⟨by rw [upd_ne ne]; exact h0, by rw [upd_ne ne]; exact h0', us, ?_, h2.go gg⟩
      rcases h1 with ⟨ob, h1⟩ | h1
      · exact .inl ⟨ob, by rw [upd_ne ne]; exact h1⟩
      · exact .inr h1
    | ins c fs => obtain ⟨dx, vfs, h1, h2⟩ := q; exact ⟨dx, vfs, by rw [upd_ne ne]; exact h1, h2.go gg⟩
  · obtain ⟨h1, h2, h3⟩ := rm.sep a ha
    refine ⟨h1, ?_, ?_⟩
    · by_cases e : a = D
      · rw [e, upd_same]; simp
      · rw [upd_ne e]; exact h2
    · by_cases e : a = D
      · rw [e, upd_same]; simp
      · rw [upd_ne e]; exact h3
/-- what was not there at the start may be anything -/
theorem Adv.redo {io io' : Ad} {H H' : Hp} {D : Addr} {o : HO} (a : Adv io H io' H') (hD : H D = none) : Adv io H io' (upd H' D o) :=
  ⟨a.more, a.hide, fun b xs e => by rw [upd_ne (ne_of_none e hD)]; exact a.tups _ _ e, fun b _ _ e => by rw [upd_ne (ne_of_none e hD)]; exact a.frzs _ _ _ e, fun b _ e n => by rw [upd_ne (ne_of_none e hD)]; exact a.stay _ _ e n, fun b e => by
    by_cases hb : b = D
    · rw [hb]; exact hD
    · rw [upd_ne hb] at e; exact a.dom _ e⟩
theorem l_comp (g : Good p W X) (hi : PI X tgx iter (tI p W fi)) (ok : BlkOk X.N X.env.scope scope own)
    (hg : ∀ (s : Shared) (H : Hp) (C : Addr) (cl : List (Str × Addr)) (fp : List Addr), Good p W0 (X.blk s H scope (compEnvC scope cl C X.env) fp) → PG (X.blk s H scope (compEnvC scope cl C X.env) fp) tgx (gT p tg))
    (ht : ∀ (s : Shared) (H : Hp) (C : Addr) (cl : List (Str × Addr)) (fp : List Addr), Good p W0 (X.blk s H scope (compEnvC scope cl C X.env) fp) → PTs (X.blk s H scope (compEnvC scope cl C X.env) fp) ifs (tT p W0 ft))
    (he : ∀ (s : Shared) (H : Hp) (C : Addr) (cl : List (Str × Addr)) (fp : List Addr), Good p W0 (X.blk s H scope (compEnvC scope cl C X.env) fp) → PE (X.blk s H scope (compEnvC scope cl C X.env) fp) elt (tE p W0 fe))
    (hsl : ∀ j ∈ tg.slots, j ∈ own.map (·.2)) (hs : ∀ x, foldedSetIterable iter X.env x = pure x := by intro _; rfl) : PE X (.ListComp elt [⟨tgx, iter, ifs, 0⟩] scope pos) (tL p W (lComp fi tg ft fe (own.map (·.2)))) := by
  refine (pe_lc g.calm g.nd hi ok (fun s H C cl fp => hg s H C cl fp (g.blk ..)) (fun s H C cl fp => ht s H C cl fp (g.blk ..)) (fun s H C cl fp => he s H C cl fp (g.blk ..)) hs).weak fun σ H Q ⟨io, r, m, rs, rm, h⟩ => ⟨io, r, m, rs, rm, PostG.mono (PostG.bind h) fun src io1 H1 m1 a1 rm1 h1 J H2 a2 rm2 fd D hD => ?_⟩
  generalize hvs : own.map (·.2) = vs at *
  have h0 := PostG.adv a2 h1
  have rs2 := (rs.mono a1).mono a2
  have av0 : Adv io1 H2 (io1.hide D) (upd H2 D (.lst [])) := .hidden hD _
  refine ⟨fun i k H' => k = src.items.length - i ∧ i ≤ src.items.length ∧ ∃ io' m' acc ws, Adv io1 H2 io' H' ∧ D ∈ io'.hd ∧ RM p io' H' m' ∧ H' D = some (.lst ws) ∧ RVs p io' H' acc ws ∧
      PostG p W io1 H2 σ (loopC src tg ft fe vs r (src.items.drop i) m' acc) fun x io' H' m' => ∀ D vs, H' D = some (.lst vs) → ¬ io'.has D → RVs p io' H' x vs → Adv io H (io'.add D) H' → RM p (io'.add D) H' (m' ++ [.lst x]) → Q (.ref D) H',
    ⟨src.items.length, by simp, Nat.zero_le _, io1.hide D, m1, [], [], av0, List.mem_cons_self, rm2.hide hD _, upd_same, by simp [RVs], by simpa using h0⟩, ?_⟩
  rintro i k H' ⟨rfl, hi', io', m', acc, ws, av, hDhd, rm', hDw, rva, hp⟩
  have hDix : D ∉ io'.ix := (rm'.sep D hDhd).1
  by_cases hl : i < src.items.length
  · rw [List.drop_eq_getElem_cons hl] at hp
    obtain ⟨okm, r1, hput, hp⟩ := loopC_cons hp
    obtain ⟨go, yl⟩ := (fd i io' H' m' av rm' okm).1 src.items[i] (by simp [hl])
    refine .inr ⟨go, fun H5 => i + 1 ≤ src.items.length ∧ ∃ io' m' acc ws, Adv io1 H2 io' H5 ∧ D ∈ io'.hd ∧ RM p io' H5 m' ∧ H5 D = some (.lst ws) ∧ RVs p io' H5 acc ws ∧
      PostG p W io1 H2 σ (loopC src tg ft fe vs r (src.items.drop (i + 1)) m' acc) fun x io' H' m' => ∀ D vs, H' D = some (.lst vs) → ¬ io'.has D → RVs p io' H' x vs → Adv io H (io'.add D) H' → RM p (io'.add D) H' (m' ++ [.lst x]) → Q (.ref D) H',
      fun H5 q => ⟨src.items.length - (i + 1), by omega, rfl, q.1, q.2⟩, fun v H3 y => ?_⟩
    obtain ⟨a3, rm3, rv3⟩ := yl v H3 y
    refine ⟨io', wipeE r vs, m', src.items[i], (rs2.mono (av.trans a3)).wipe vs, rm3, rv3, ?_⟩
    rw [hput]
    intro H4 σ4 a4 rm4 rs4 hl4 hn4
    refine ⟨wipe_same vs (hl4.trans (wipe_length σ vs)) fun j hj => hn4 j fun z => hj (hsl j z), io', r1, m', rs4, rm4, ?_⟩
    match e : ft r1 m', hp with
    | none, hp => exact hp.elim
    | some (.ex _ _, _), hp => exact hp.elim
    | some (.ok b, m5), hp =>
      intro io5 H5 a5 rm5
      have a35 := a3.trans (a4.trans a5)
      have hD5 : D ∈ io5.hd := by
        obtain ⟨y, e, _⟩ := a5.hide
        rw [e]
        exact List.mem_append_right _ hDhd
      have hDw5 : H5 D = some (.lst ws) := a35.stay _ _ hDw hDix
      cases b with
      | false =>
        refine iteF ?_
        exact ⟨hl, io5, m5, acc, ws, av.trans a35, hD5, rm5, hDw5, rva.mono a35, hp⟩
      | true =>
        refine iteT ?_
        have hp : PostG p W io1 H2 σ ((nox (fe r1 m5)).bind fun y m2 => if acc.length < sizeLine then loopC src tg ft fe vs r (src.items.drop (i + 1)) m2 (acc ++ [y]) else none) _ := hp
        refine ⟨io5, r1, m5, rs4.mono a5, rm5, ?_⟩
        match e2 : fe r1 m5, hp with
        | none, hp => exact hp.elim
        | some (.ex _ _, _), hp => exact hp.elim
        | some (.ok y, m6), hp =>
          intro io6 H6 a6 rm6 w rw
          have hp : PostG p W io1 H2 σ (if acc.length < sizeLine then loopC src tg ft fe vs r (src.items.drop (i + 1)) m6 (acc ++ [y]) else none) _ := hp
          split at hp
          case isFalse => exact hp.elim
          rename_i hlen
          have hD6 : D ∈ io6.hd := by
            obtain ⟨y, e, _⟩ := a6.hide
            rw [e]
            exact List.mem_append_right _ hD5
          have hDw6 : H6 D = some (.lst ws) := a6.stay _ _ hDw5 (rm5.sep D hD5).1
          have gp : Go io6 H6 io6 (upd H6 D (.lst (ws ++ [w]))) := .poke hD6 hDw6
          refine ⟨ws, hDw6, by rw [← rva.length]; exact hlen, hl, io6, m6, acc ++ [y], ws ++ [w], (av.trans (a35.trans a6)).redo hD, hD6, rm6.poke hD6 hDw6, upd_same, ?_, hp⟩
          refine ((rva.mono (a35.trans a6)).go gp).append ?_
          simp only [RVs]
          exact ⟨w, [], rfl, rw.go gp, rfl⟩
  · have e : i = src.items.length := by omega
    subst e
    rw [List.drop_length] at hp
    obtain ⟨okm, hp⟩ := loopC_nil hp
    refine .inl ⟨(fd _ io' H' m' av rm' okm).2 (Nat.le_refl _), ?_⟩
    have hD1 : D ∉ io1.hd := fun z => (rm2.sep D z).2.1 hD
    have ls : Less io' { ix := io'.ix, hd := io1.hd } := ⟨rfl, fun a ha => by
      obtain ⟨y, e, _⟩ := av.hide
      rw [e]
      exact List.mem_append_right _ ha⟩
    have avf : Adv io1 H2 { ix := io'.ix, hd := io1.hd } H' := ⟨av.more, ⟨[], by simp, by simp⟩, av.tups, av.frzs, av.stay, av.dom⟩
    have jn : Join io' (Ad.add { ix := io'.ix, hd := io1.hd } D) D := ⟨rfl, ls.hd, hDhd⟩
    obtain ⟨z, e, f⟩ := av.more
    refine hp { ix := io'.ix, hd := io1.hd } H' avf (rm'.less ls) D ws hDw (fun q => q.elim hDix hD1) (rva.less ls) ((a1.trans a2).trans ⟨⟨z ++ [D], ?_, fun a ha => ?_⟩, ⟨[], by simp [Ad.add], by simp⟩, av.tups, av.frzs, av.stay, av.dom⟩) (rm'.join jn hDw rva hD1)
    · show io'.ix ++ [D] = _
      rw [e, List.append_assoc]
    · rcases List.mem_append.mp ha with q | q
      · exact f a q
      · rw [List.mem_singleton.mp q]; exact hD
end
end Mini
namespace Mini
open PySem L2
section
variable {p : Par} {W : WX} {X : Cx} {pos pos' q tpos : Pos} {a b c e elt iter : Expr} {es : List Expr} {fe fa fb : Fe} {fr : Fa}
/-! ### f-strings -/
def vFmt : PV → Sto → Option PV := fun x _ => match x with
  | .str y => if y.length ≤ sizeLine then some (.str y) else none
  | .int i => if i.natAbs.log2 < 1920 then some (.str (figs i)) else none
  | _ => none
theorem r_fmt (he : PE X e (tE p W fe)) : PE X (.FormattedValue e (-1) none pos) (tE p W (f1 vFmt fe)) := by
  refine (pe_fmt he).weak fun σ H Q ⟨io, r, m, rs, rm, h⟩ => ⟨io, r, m, rs, rm, PostG.mono (PostG.bind h) fun x io1 H1 m1 a1 rm1 h1 v rv => ?_⟩
  have q := h1.val
  unfold vFmt at q
  split at q
  · split at q
    · rename_i hz
      simp only [RV] at rv
      exact .inl ⟨_, rv, by rw [mkS_length]; exact hz, q.same rm1 (by simp [RV])⟩
    · exact q.elim
  · split at q
    · rename_i hz
      simp only [RV] at rv
      exact .inr ⟨_, rv, hz, q.same rm1 (by simp [RV, figs_is])⟩
    · exact q.elim
  · exact q.elim
def fJ : List Fe → List Nat → Fe
  | [], acc => fun _ m => some (.ok (.str acc), m)
  | f :: fs, acc => fun r m => (f r m).bind fun x m1 => match x with
    | .str y => if acc.length + y.length ≤ sizeLine then fJ fs (acc ++ y) r m1 else none
    | _ => none
def JJ (p : Par) (W : WX) (X : Cx) (es : List Expr) (fs : List Fe) : Prop := PJ X es (fs.map (tE p W))
theorem j_nil : JJ p W X [] [] := .nil
theorem j_cons {fs : List Fe} (he : PE X e (tE p W fe)) (hr : JJ p W X es fs) : JJ p W X (e :: es) (fe :: fs) := .cons he hr
theorem j_weak {σ : St} {Q : VK} : ∀ (fs : List Fe) (acc : List Nat) (H : Hp) (io : Ad) (r : PySem.Env → Prop) (r : Env) (m : Sto), RS p io H r σ → RM p io H m → PostG p W io H σ (fJ fs acc r m) (fun x io' H' _ => ∀ v, RV p io' H' x v → Q v H') →
    tJs (fs.map (tE p W)) (mkS acc) σ H fun out H1 => Q (.str out) H1
  | [], acc, H, io, _, r, m, rs, rm, h => PostG.of_ok rm h _ (by simp [RV])
  | f :: fs, acc, H, io, rr, r, m, rs, rm, h => by
    refine ⟨io, r, m, rs, rm, PostG.mono (PostG.bind h) fun x io1 H1 m1 a1 rm1 h1 v rv => ?_⟩
    split at h1
    · rename_i y
      split at h1
      · rename_i hz
        simp only [RV] at rv
        refine ⟨mkS y, rv, by rw [mkS_append, mkS_length, List.length_append]; exact hz, ?_⟩
        rw [mkS_append]
        exact j_weak fs (acc ++ y) H1 io1 rr r m1 (rs.mono a1) rm1 h1
      · exact h1.elim
    · exact h1.elim
theorem r_joined {v1 v2 : Expr} {rest : List Expr} {fs : List Fe} (h : JJ p W X (v1 :: v2 :: rest) fs) : PE X (.JoinedStr (v1 :: v2 :: rest) pos) (tE p W (fJ fs [])) :=
  (pe_joined h).weak fun σ H Q ⟨io, r, m, rs, rm, h⟩ => j_weak fs [] H io (fun _ => True) r m rs rm h
theorem r_joined1 (he : PE X e (tE p W fe)) : PE X (.JoinedStr [e] pos) (tE p W fe) := pe_joined1 he
/-! ### a star in a display -/
def aStar (fe : Fe) (fr : Fa) : Fa := fun r m => (fe r m).bind fun x m1 => match rdS x m1 with
  | some xs => (fr r m1).bind fun ys m2 => some (.ok (xs ++ ys), m2)
  | none => none
theorem a_star {pp : Pos} (g : Good p W X) (he : PE X e (tE p W fe)) (hr : PA X es (tAr p W fr)) (hs : starEach (.Starred e pp :: es) X.env = (true, eval e X.env) :: starEach es X.env := by rfl) : PA X (.Starred e pp :: es) (tAr p W (aStar fe fr)) := by
  refine (StX.pa_star he hr hs).weak fun σ H Q ⟨io, r, m, rs, rm, h⟩ => ⟨io, r, m, rs, rm, PostG.mono (PostG.bind h) fun x io1 H1 m1 a1 rm1 h1 v rv => ?_⟩
  split at h1
  · rename_i xs hx
    obtain ⟨a, vs, rfl, s, r1⟩ := rdS_rel rm1 hx rv
    rw [← g.hK] at s
    refine ⟨a, vs, rfl, s.symm, io1, r, m1, rs.mono a1, rm1, PostG.mono (PostG.bind h1) fun ys io2 H2 m2 a2 rm2 h2 ws rws => ?_⟩
    exact PostG.of_ok rm2 h2 _ ((r1.mono a2).append rws)
  · exact h1.elim
/-! ### dicts -/
def keyOf : PV → Option Key
  | .int i => some (.inl i)
  | .str z => some (.inr (mkS z))
  | _ => none
def keysOf : List PV → Option (List Key)
  | [] => some []
  | x :: xs => match keyOf x, keysOf xs with
    | some k, some ks => some (k :: ks)
    | _, _ => none
theorem keyOf_P {x : PV} {k : Key} (h : keyOf x = some k) : x = keyP k := by
  cases x <;> simp only [keyOf, Option.some.injEq, reduceCtorEq] at h
  · subst h; rfl
  · subst h; simp [keyP, mkS_cps]
theorem keysOf_P : ∀ {xs : List PV} {ks : List Key}, keysOf xs = some ks → xs = ks.map keyP
  | [], _, h => by simp only [keysOf, Option.some.injEq] at h; subst h; rfl
  | x :: xs, _, h => by
    simp only [keysOf] at h
    split at h
    · rename_i k ks h1 h2
      simp only [Option.some.injEq] at h
      subst h
      rw [keyOf_P h1, keysOf_P h2]
      rfl
    · cases h
theorem keyOf_rel {io : Ad} {H : Hp} {x : PV} {k : Key} {v : V} (h : keyOf x = some k) (rv : RV p io H x v) : v = kV k := by
  cases x <;> simp only [keyOf, Option.some.injEq, reduceCtorEq] at h <;> subst h <;> simp only [RV] at rv <;> exact rv
theorem keysOf_rel {io : Ad} {H : Hp} : ∀ {xs : List PV} {ks : List Key} {vs : List V}, keysOf xs = some ks → RVs p io H xs vs → vs = ks.map kV
  | [], _, _, h, rv => by simp only [keysOf, Option.some.injEq] at h; subst h; simpa [RVs] using rv
  | x :: xs, _, _, h, rv => by
    simp only [keysOf] at h
    split at h
    · rename_i k ks h1 h2
      simp only [Option.some.injEq] at h
      subst h
      simp only [RVs] at rv
      obtain ⟨v, r, rfl, r1, r2⟩ := rv
      rw [keyOf_rel h1 r1, keysOf_rel h2 r2]
      rfl
    · cases h
theorem keyP_inj {a b : Key} (h : keyP a = keyP b) : a = b := by
  cases a with
  | inl i => cases b with
    | inl j => simp only [keyP, PV.int.injEq] at h; rw [h]
    | inr y => simp [keyP] at h
  | inr x => cases b with
    | inl j => simp [keyP] at h
    | inr y =>
      simp only [keyP, PV.str.injEq] at h
      rw [← mkS_of x, h, mkS_of]
/-- where a key stands -/
def dLook (k : Key) : List PV → List PV → Option PV
  | x :: ks, v :: vs => if keyOf x = some k then some v else dLook k ks vs
  | _, _ => none
theorem keyOf_keyP (k : Key) : keyOf (keyP k) = some k := by
  cases k with
  | inl i => rfl
  | inr x => simp [keyP, keyOf, mkS_of]
theorem dLook_rel {io : Ad} {H : Hp} {k : Key} : ∀ {kvs : List (Key × V)} {xs : List PV}, RVs p io H xs (kvs.map (·.2)) →
    (∀ x, dLook k (kvs.map fun q => keyP q.1) xs = some x → ∃ v, valV kvs k = some v ∧ RV p io H x v) ∧ (dLook k (kvs.map fun q => keyP q.1) xs = none → valV kvs k = none)
  | [], xs, h => by
    simp only [List.map_nil]
    refine ⟨fun x e => ?_, fun _ => rfl⟩
    cases xs <;> simp [dLook] at e
  | (k', v) :: kvs, xs, h => by
    cases xs with
    | nil => simp [RVs] at h
    | cons x xs =>
      simp only [List.map_cons, RVs] at h
      obtain ⟨v', r, e, h1, h2⟩ := h
      simp only [List.cons.injEq] at e
      obtain ⟨rfl, rfl⟩ := e
      simp only [List.map_cons, dLook, keyOf_keyP, Option.some.injEq]
      by_cases hk : k' = k
      · subst hk
        rw [if_pos rfl]
        refine ⟨fun y e => ?_, fun e => by cases e⟩
        cases e
        exact ⟨v, valV_pos rfl, h1⟩
      · rw [if_neg hk]
        have e : valV ((k', v) :: kvs) k = valV kvs k := by
          unfold valV
          rw [List.find?_cons, decide_eq_false hk]
        rw [e]
        exact dLook_rel h2
def vDget : PV → PV → Sto → Option PV := fun d y _ => match d, keyOf y with
  | .dct ks vs, some k => dLook k ks vs
  | _, _ => none
theorem r_dget (g : Good p W X) (ha : PE X a (tE p W fa)) (hb : PE X b (tE p W fb)) (hs : NoSl b := by exact fun _ _ => rfl) : PE X (.Subscript a b pos) (tE p W (f2 vDget fa fb)) := by
  refine (pe_dget (Nat.lt_of_le_of_lt (Nat.add_le_add_left (by decide) _) g.hu) ha hb hs).weak fun σ H Q ⟨io, r, m, rs, rm, h⟩ => ⟨io, r, m, rs, rm, PostG.mono (PostG.bind h) fun x io1 H1 m1 a1 rm1 h1 v rv => ?_⟩
  refine ⟨io1, r, m1, rs.mono a1, rm1, PostG.mono (PostG.bind h1) fun y io2 H2 m2 a2 rm2 h2 w rw => ?_⟩
  have q := h2.val
  unfold vDget at q
  split at q
  · rename_i ks xs k hk
    have rv2 := rv.mono a2
    simp only [RV] at rv2
    obtain ⟨d, kvs, e, hd, _, rfl, rx⟩ := rv2
    have := keyOf_rel hk rw
    subst this
    generalize e2 : dLook k (kvs.map fun q => keyP q.1) xs = res at q
    match res, q with
    | none, q => exact q.elim
    | some z, q =>
      obtain ⟨u, hu, ru⟩ := (dLook_rel (k := k) rx).1 z e2
      exact ⟨d, u, e, hu ▸ DGet.k hd, q.same rm2 ru⟩
  · exact q.elim
def fPrs : List (Fe × Fe) → Env → Sto → Res (List PV × List PV)
  | [], _, m => some (.ok ([], []), m)
  | (fk, fv) :: r, e, m => (fk e m).bind fun x m1 => (fv e m1).bind fun y m2 => (fPrs r e m2).bind fun q m3 => some (.ok (x :: q.1, y :: q.2), m3)
def fDisp (ps : List (Fe × Fe)) : Fe := fun r m => (fPrs ps r m).bind fun q m1 => match keysOf q.1 with
  | some ks => if ks.Nodup ∧ ks.length ≤ 15 then some (.ok (.dct q.1 q.2), m1) else none
  | none => none
theorem mergeK_nd : ∀ (more kvs : List (Key × V)), ((kvs ++ more).map (·.1)).Nodup → mergeK kvs more = kvs ++ more
  | [], kvs, _ => by simp [mergeK]
  | (k, v) :: more, kvs, h => by
    have hk : valV kvs k = none := by
      unfold valV
      rw [Option.map_eq_none_iff, List.find?_eq_none]
      intro x hx
      simp only [decide_eq_true_eq]
      intro e
      rw [List.map_append, List.nodup_append] at h
      exact h.2.2 x.1 (List.mem_map_of_mem hx) k (by simp) e
    have e : mergeK kvs ((k, v) :: more) = mergeK (kvs ++ [(k, v)]) more := by
      show mergeK (putK kvs k v) more = _
      rw [putK_new v hk]
    rw [e, mergeK_nd more (kvs ++ [(k, v)]) (by simpa using h)]
    simp
theorem prs_weak {σ : St} {Q : List (V × V) → Hp → Prop} : ∀ (ps : List (Fe × Fe)) (H : Hp) (io : Ad) (r : Env) (m : Sto), RS p io H r σ → RM p io H m →
    PostG p W io H σ (fPrs ps r m) (fun q io' H' _ => ∀ vs ws, RVs p io' H' q.1 vs → RVs p io' H' q.2 ws → vs.length = ws.length → Q (vs.zip ws) H') →
    tPairs (ps.map fun q => (tE p W q.1, tE p W q.2)) σ H Q
  | [], H, io, r, m, rs, rm, h => PostG.of_ok rm h [] [] (by simp [RVs]) (by simp [RVs]) rfl
  | (fk, fv) :: ps, H, io, r, m, rs, rm, h => by
    refine ⟨io, r, m, rs, rm, PostG.mono (PostG.bind h) fun x io1 H1 m1 a1 rm1 h1 v rv => ?_⟩
    refine ⟨io1, r, m1, rs.mono a1, rm1, PostG.mono (PostG.bind h1) fun y io2 H2 m2 a2 rm2 h2 w rw => ?_⟩
    refine prs_weak ps H2 io2 r m2 ((rs.mono a1).mono a2) rm2 (PostG.mono (PostG.bind h2) fun q io3 H3 m3 a3 rm3 h3 vs ws r1 r2 hl => ?_)
    have := PostG.of_ok rm3 h3 (v :: vs) (w :: ws) (by simp only [RVs]; exact ⟨_, _, rfl, rv.mono (a2.trans a3), r1⟩) (by simp only [RVs]; exact ⟨_, _, rfl, rw.mono a3, r2⟩) (by simp [hl])
    exact this
theorem pps_m_nil : PPs X pos [] [] (([] : List (Fe × Fe)).map fun q => (tE p W q.1, tE p W q.2)) := pps_nil
theorem pps_m_cons {k v : Expr} {ks : List (Option Expr)} {vs : List Expr} {fk fv : Fe} {ps : List (Fe × Fe)} (hk : PE X k (tE p W fk)) (hv : PE X v (tE p W fv)) (hr : PPs X pos ks vs (ps.map fun q => (tE p W q.1, tE p W q.2))) :
    PPs X pos (some k :: ks) (v :: vs) (((fk, fv) :: ps).map fun q => (tE p W q.1, tE p W q.2)) := pps_cons hk hv hr
theorem Go.pokeD {io : Ad} {H : Hp} {D : Addr} {o' : HO} (hD : D ∈ io.hd) (ht : ∀ zs, H D ≠ some (.tup zs)) (hf : ∀ o u, H D ≠ some (.frz o u)) : Go io H io (upd H D o') := by
  refine ⟨⟨[], by simp, by simp⟩, ⟨[], by simp, by simp⟩, fun a xs e => ?_, fun a o u e => ?_, fun a o e n => ?_⟩
  · rw [upd_ne fun (z : a = D) => ht xs (by rw [← z]; exact e)]; exact e
  · rw [upd_ne fun (z : a = D) => hf o u (by rw [← z]; exact e)]; exact e
  · rw [upd_ne fun (z : a = D) => n (.inr (by rw [z]; exact hD))]; exact e
theorem RM.pokeD {io : Ad} {H : Hp} {m : Sto} {D : Addr} {o' : HO} (hD : D ∈ io.hd) (ht : ∀ zs, H D ≠ some (.tup zs)) (hf : ∀ o u, H D ≠ some (.frz o u)) (ho : ∀ zs, some o' ≠ some (.tup zs)) (rm : RM p io H m) : RM p io (upd H D o') m := by
  have gg : Go io H io (upd H D o') := .pokeD hD ht hf
  refine ⟨rm.len, rm.nd, fun n o a h1 h2 => ?_, fun a ha => ?_⟩
  · have ne : a ≠ D := fun z => (rm.sep D hD).1 (by rw [← z]; exact List.mem_of_getElem? h2)
    have q := rm.ob n o a h1 h2
    cases o with
    | lst xs => obtain ⟨us, h1, h2⟩ := q; exact ⟨us, by rw [upd_ne ne]; exact h1, h2.go gg⟩
    | rol xs =>
      obtain ⟨h0, h0', us, h1, h2⟩ := q
      refine ⟨by rw [upd_ne ne]; exact h0, by rw [upd_ne ne]; exact h0', us, ?_, h2.go gg⟩
      rcases h1 with ⟨ob, h1⟩ | h1
      · exact .inl ⟨ob, by rw [upd_ne ne]; exact h1⟩
      · exact .inr h1
    | ins c fs => obtain ⟨dx, vfs, h1, h2⟩ := q; exact ⟨dx, vfs, by rw [upd_ne ne]; exact h1, h2.go gg⟩
  · obtain ⟨h1, h2, h3⟩ := rm.sep a ha
    refine ⟨h1, ?_, ?_⟩
    · by_cases e : a = D
      · rw [e, upd_same]; simp
      · rw [upd_ne e]; exact h2
    · by_cases e : a = D
      · rw [e, upd_same]; exact ho
      · rw [upd_ne e]; exact h3
theorem r_disp {keys : List (Option Expr)} {values : List Expr} {ps : List (Fe × Fe)} (h : PPs X pos keys values (ps.map fun q => (tE p W q.1, tE p W q.2))) (hall : keys.all (·.isSome) = true) (hl : keys.length = values.length) (h0 : keys ≠ [])
    (h15 : keys.length ≤ 15) : PE X (.Dict keys values pos) (tE p W (fDisp ps)) := by
  refine (pe_disp h hall hl h0 h15).weak fun σ H Q ⟨io, r, m, rs, rm, h⟩ D hD => ?_
  have av0 : Adv io H (io.hide D) (upd H D (.dK [])) := .hidden hD _
  have rm0 : RM p (io.hide D) (upd H D (.dK [])) m := by
    refine ⟨rm.len, rm.nd, fun n o a h1 h2 => ?_, fun a ha => ?_⟩
    · have q := rm.ob n o a h1 h2
      have ne : a ≠ D := fun z => RO.live q (z ▸ hD)
      have rf := RO.mono' av0 q (upd_ne ne)
      exact rf
    · rcases List.mem_cons.mp ha with rfl | ha
      · exact ⟨fun z => rm.notin hD (.inl z), by rw [upd_same]; simp, fun zs => by rw [upd_same]; simp⟩
      · obtain ⟨h1, h2, h3⟩ := rm.sep a ha
        have ne : a ≠ D := fun z => h2 (z ▸ hD)
        exact ⟨h1, by rw [upd_ne ne]; exact h2, by rw [upd_ne ne]; exact h3⟩
  refine prs_weak ps _ (io.hide D) r m (rs.mono av0) rm0 ?_
  unfold fDisp at h
  match e : fPrs ps r m, h with
  | none, h => exact h.elim
  | some (.ex c fs, m'), h => exact fun io' H' d av rm' rx => h io' H' d (av0.trans av) rm' rx
  | some (.ok q, m'), h =>
    intro io' H' av rm' vs ws r1 r2 hl
    simp only [Res.bind] at h
    split at h
    case h_2 => exact h.elim
    rename_i ks hk
    split at h
    case isFalse => exact h.elim
    rename_i hn
    have ev := keysOf_rel hk r1
    have ek := keysOf_P hk
    have hDhd : D ∈ io'.hd := by
      obtain ⟨y, e, _⟩ := av.hide
      rw [e]
      exact List.mem_append_right _ List.mem_cons_self
    have hDix := (rm'.sep D hDhd).1
    have hDw : H' D = some (.dK []) := av.stay _ _ upd_same fun z => rm.notin hD (.inl z)
    have hlen : ks.length = ws.length := by rw [← hl, ev, List.length_map]
    have hfst : (ks.zip ws).map (·.1) = ks := by
      rw [List.map_fst_zip (by omega)]
    have hsnd : (ks.zip ws).map (·.2) = ws := by
      rw [List.map_snd_zip (by omega)]
    have hm : mergeK [] (ks.zip ws) = ks.zip ws := mergeK_nd (ks.zip ws) [] (by rw [List.nil_append, hfst]; exact hn.1)
    refine ⟨hDw, ks.zip ws, ?_, by rw [List.length_zip]; omega, ?_⟩
    · rw [ev]
      rw [List.zip_map_left]
      rfl
    · rw [hm]
      have ls : Less io' { ix := io'.ix, hd := io.hd } := ⟨rfl, fun a ha => by
        obtain ⟨y, e, _⟩ := av.hide
        rw [e]
        exact List.mem_append_right _ (List.mem_cons_of_mem _ ha)⟩
      have avt := av0.trans av
      have avf : Adv io H { ix := io'.ix, hd := io.hd } H' := ⟨avt.more, ⟨[], by simp, by simp⟩, avt.tups, avt.frzs, avt.stay, avt.dom⟩
      have hDh : D ∉ io.hd := fun z => (rm.sep D z).2.1 hD
      have gp : Go io' H' io' (upd H' D (.dK (ks.zip ws))) := .pokeD hDhd (by rw [hDw]; simp) (by rw [hDw]; simp)
      have rmp := rm'.pokeD (o' := .dK (ks.zip ws)) hDhd (by rw [hDw]; simp) (by rw [hDw]; simp) (by simp)
      refine h { ix := io'.ix, hd := io.hd } _ (avf.redo hD) (rmp.less ls) (.ref D) ?_
      simp only [RV]
      refine ⟨D, ks.zip ws, rfl, upd_same, fun z => z.elim hDix hDh, ?_, ?_⟩
      · rw [ek, ← hfst]
        rw [List.map_map, hfst]
        rfl
      · rw [hsnd]
        exact (r2.go gp).less ls
end
end Mini
namespace Mini
open PySem L2 PyProof.Rows
/-! ### what a def leaves: its own objects are thrown away, its own list handed back stands for itself -/
mutual
def below (n : Nat) : PV → Bool
  | .ref k => decide (k < n)
  | .tup xs => belows n xs
  | .lst xs => belows n xs
  | .dct _ xs => belows n xs
  | _ => true
def belows (n : Nat) : List PV → Bool
  | [] => true
  | x :: xs => below n x && belows n xs
end
def obBelow (n : Nat) : Ob → Bool
  | .lst xs => belows n xs
  | .rol xs => belows n xs
  | .ins _ fs => belows n (fs.map (·.2))
mutual
def frz (n : Nat) (m : Sto) : Nat → PV → Option PV
  | _, .non => some .non
  | _, .bl b => some (.bl b)
  | _, .int i => some (.int i)
  | _, .str x => some (.str x)
  | _, .glo k => some (.glo k)
  | _, .ty k => some (.ty k)
  | 0, _ => none
  | k + 1, .tup xs => (frzs n m k xs).map .tup
  | k + 1, .lst xs => (frzs n m k xs).map .lst
  | k + 1, .dct ks xs => (frzs n m k xs).map (.dct ks)
  | k + 1, .ref j => if j < n then some (.ref j) else match m[j]? with
    | some (.lst xs) => (frzs n m k xs).map .lst
    | _ => none
def frzs (n : Nat) (m : Sto) : Nat → List PV → Option (List PV)
  | _, [] => some []
  | k, x :: xs => match frz n m k x, frzs n m k xs with
    | some y, some ys => some (y :: ys)
    | _, _ => none
end
def Ad.cut (io : Ad) (n : Nat) : Ad := { io with ix := io.ix.take n }
section
variable {p : Par} {io io' : Ad} {H H' : Hp} {m m' : Sto} {n : Nat}
theorem cut_has {a : Addr} (h : ¬ io.has a) : ¬ (io.cut n).has a := fun z => h (z.elim (fun z => .inl (List.mem_of_mem_take z)) .inr)
theorem cut_get {j : Nat} {a : Addr} (h : io.ix[j]? = some a) (hj : j < n) : (io.cut n).ix[j]? = some a := by
  show (io.ix.take n)[j]? = some a
  rw [List.getElem?_take, if_pos hj]
  exact h
mutual
theorem RV.cut : ∀ {x : PV} {v : V}, below n x = true → RV p io H x v → RV p (io.cut n) H x v
  | .non, _, _, h => by simpa [RV] using h
  | .bl b, _, _, h => by simpa [RV] using h
  | .int i, _, _, h => by simpa [RV] using h
  | .str x, _, _, h => by simpa [RV] using h
  | .tup xs, _, e, h => by
    simp only [below] at e
    simp only [RV] at h ⊢
    obtain ⟨b, vs, e1, s, r⟩ := h
    exact ⟨b, vs, e1, s, RVs.cutB e r⟩
  | .lst xs, _, e, h => by
    simp only [below] at e
    simp only [RV] at h ⊢
    obtain ⟨b, vs, e1, s, k, r⟩ := h
    exact ⟨b, vs, e1, s, cut_has k, RVs.cutB e r⟩
  | .dct ks xs, _, e, h => by
    simp only [below] at e
    simp only [RV] at h ⊢
    obtain ⟨b, vs, e1, s, k, q, r⟩ := h
    exact ⟨b, vs, e1, s, cut_has k, q, RVs.cutB e r⟩
  | .ref j, _, e, h => by
    simp only [below, decide_eq_true_eq] at e
    simp only [RV] at h ⊢
    obtain ⟨a, e1, h⟩ := h
    exact ⟨a, e1, cut_get h e⟩
  | .glo k, _, _, h => by simpa [RV] using h
  | .ty k, _, _, h => by simpa [RV] using h
theorem RVs.cutB : ∀ {xs : List PV} {vs : List V}, belows n xs = true → RVs p io H xs vs → RVs p (io.cut n) H xs vs
  | [], _, _, h => by simpa [RVs] using h
  | x :: xs, _, e, h => by
    simp only [belows, Bool.and_eq_true] at e
    simp only [RVs] at h ⊢
    obtain ⟨v, r, e1, h1, h2⟩ := h
    exact ⟨v, r, e1, RV.cut e.1 h1, RVs.cutB e.2 h2⟩
end
mutual
theorem RV.below : ∀ {x : PV} {v : V}, RV p io H x v → io.ix.length ≤ n → Mini.below n x = true
  | .non, _, _, _ => by simp [Mini.below]
  | .bl b, _, _, _ => by simp [Mini.below]
  | .int i, _, _, _ => by simp [Mini.below]
  | .str x, _, _, _ => by simp [Mini.below]
  | .glo x, _, _, _ => by simp [Mini.below]
  | .ty x, _, _, _ => by simp [Mini.below]
  | .tup xs, _, h, hl => by
    simp only [RV] at h
    obtain ⟨b, vs, e1, s, r⟩ := h
    simp only [Mini.below]
    exact RVs.below r hl
  | .lst xs, _, h, hl => by
    simp only [RV] at h
    obtain ⟨b, vs, e1, s, _, r⟩ := h
    simp only [Mini.below]
    exact RVs.below r hl
  | .dct ks xs, _, h, hl => by
    simp only [RV] at h
    obtain ⟨b, vs, e1, s, _, _, r⟩ := h
    simp only [Mini.below]
    exact RVs.below r hl
  | .ref j, _, h, hl => by
    simp only [RV] at h
    obtain ⟨a, _, h⟩ := h
    have := (List.getElem?_eq_some_iff.mp h).1
    simp only [Mini.below, decide_eq_true_eq]
    omega
theorem RVs.below : ∀ {xs : List PV} {vs : List V}, RVs p io H xs vs → io.ix.length ≤ n → belows n xs = true
  | [], _, _, _ => by simp [belows]
  | x :: xs, _, h, hl => by
    simp only [RVs] at h
    obtain ⟨v, r, e1, h1, h2⟩ := h
    simp only [belows, Bool.and_eq_true]
    exact ⟨RV.below h1 hl, RVs.below h2 hl⟩
end
theorem RFs.below : ∀ {xs : List (String × PV)} {vs : List (Str × V)}, RFs p io H xs vs → io.ix.length ≤ n → belows n (xs.map (·.2)) = true
  | [], _, _, _ => by simp [belows]
  | (k, x) :: xs, _, h, hl => by
    simp only [RFs] at h
    obtain ⟨v, r, e1, h1, h2⟩ := h
    simp only [List.map_cons, belows, Bool.and_eq_true]
    exact ⟨h1.below hl, RFs.below h2 hl⟩
theorem RFs.cutB : ∀ {xs : List (String × PV)} {vs : List (Str × V)}, belows n (xs.map (·.2)) = true → RFs p io H xs vs → RFs p (io.cut n) H xs vs
  | [], _, _, h => by simpa [RFs] using h
  | (k, x) :: xs, _, e, h => by
    simp only [List.map_cons, belows, Bool.and_eq_true] at e
    simp only [RFs] at h ⊢
    obtain ⟨v, r, e1, h1, h2⟩ := h
    exact ⟨v, r, e1, RV.cut e.1 h1, RFs.cutB e.2 h2⟩
theorem RM.obBelow (rm : RM p io H m) {i : Nat} {o : Ob} (h : m[i]? = some o) (hl : m.length ≤ n) : obBelow n o = true := by
  obtain ⟨a, ha, q⟩ := rm.at h
  have hl' : io.ix.length ≤ n := by rw [rm.len]; exact hl
  cases o with
  | lst xs => obtain ⟨ws, h1, h2⟩ := q; exact h2.below hl'
  | rol xs => obtain ⟨h0, h0', ws, h1, h2⟩ := q; exact h2.below hl'
  | ins c fs => obtain ⟨dx, vfs, h1, h2⟩ := q; exact h2.below hl'
theorem RO.cut {o : Ob} {a : Addr} (e : obBelow n o = true) (h : RO p io H o a) : RO p (io.cut n) H o a := by
  cases o with
  | lst xs => obtain ⟨ws, h1, h2⟩ := h; exact ⟨ws, h1, h2.cutB e⟩
  | rol xs => obtain ⟨h0, h0', ws, h1, h2⟩ := h; exact ⟨h0, h0', ws, h1, h2.cutB e⟩
  | ins c fs => obtain ⟨dx, vfs, h1, h2⟩ := h; exact ⟨dx, vfs, h1, h2.cutB e⟩
theorem RM.cut (rm : RM p io H m) (hb : ∀ i o, i < n → m[i]? = some o → Mini.obBelow n o = true) : RM p (io.cut n) H (m.take n) := by
  refine ⟨?_, rm.nd.sublist (List.take_sublist _ _), fun i o a h1 h2 => ?_, fun a ha => ?_⟩
  · show (io.ix.take n).length = _
    rw [List.length_take, List.length_take, rm.len]
  · rw [List.getElem?_take] at h1
    have h2' : (io.ix.take n)[i]? = some a := h2
    rw [List.getElem?_take] at h2'
    split at h1
    · rename_i hi
      rw [if_pos hi] at h2'
      exact RO.cut (hb i o hi h1) (rm.ob i o a h1 h2')
    · cases h1
  · obtain ⟨h1, h2, h3⟩ := rm.sep a ha
    exact ⟨fun z => h1 (List.mem_of_mem_take z), h2, h3⟩
mutual
theorem frz_rel (rm : RM p io H m) : ∀ (k : Nat) (x y : PV) (v : V), frz n m k x = some y → RV p io H x v → RV p (io.cut n) H y v
  | k, .non, y, v, e, h => by cases k <;> simp only [frz, Option.some.injEq] at e <;> subst e <;> simpa [RV] using h
  | k, .bl b, y, v, e, h => by cases k <;> simp only [frz, Option.some.injEq] at e <;> subst e <;> simpa [RV] using h
  | k, .int b, y, v, e, h => by cases k <;> simp only [frz, Option.some.injEq] at e <;> subst e <;> simpa [RV] using h
  | k, .str b, y, v, e, h => by cases k <;> simp only [frz, Option.some.injEq] at e <;> subst e <;> simpa [RV] using h
  | k, .glo b, y, v, e, h => by cases k <;> simp only [frz, Option.some.injEq] at e <;> subst e <;> simpa [RV] using h
  | k, .ty b, y, v, e, h => by cases k <;> simp only [frz, Option.some.injEq] at e <;> subst e <;> simpa [RV] using h
  | 0, .tup b, y, v, e, h => by simp [frz] at e
  | 0, .lst b, y, v, e, h => by simp [frz] at e
  | 0, .dct b c, y, v, e, h => by simp [frz] at e
  | 0, .ref b, y, v, e, h => by simp [frz] at e
  | k + 1, .tup xs, y, v, e, h => by
    simp only [frz, Option.map_eq_some_iff] at e
    obtain ⟨ys, e, rfl⟩ := e
    simp only [RV] at h ⊢
    obtain ⟨b, vs, e1, s, r⟩ := h
    exact ⟨b, vs, e1, s, frzs_rel rm k xs ys vs e r⟩
  | k + 1, .lst xs, y, v, e, h => by
    simp only [frz, Option.map_eq_some_iff] at e
    obtain ⟨ys, e, rfl⟩ := e
    simp only [RV] at h ⊢
    obtain ⟨b, vs, e1, s, nn, r⟩ := h
    exact ⟨b, vs, e1, s, cut_has nn, frzs_rel rm k xs ys vs e r⟩
  | k + 1, .dct ks xs, y, v, e, h => by
    simp only [frz, Option.map_eq_some_iff] at e
    obtain ⟨ys, e, rfl⟩ := e
    simp only [RV] at h ⊢
    obtain ⟨b, vs, e1, s, nn, q, r⟩ := h
    exact ⟨b, vs, e1, s, cut_has nn, q, frzs_rel rm k xs ys _ e r⟩
  | k + 1, .ref j, y, v, e, h => by
    simp only [frz] at e
    simp only [RV] at h
    obtain ⟨a, rfl, ha⟩ := h
    split at e
    · rename_i hj
      cases e
      simp only [RV]
      exact ⟨a, rfl, cut_get ha hj⟩
    · rename_i hj
      split at e
      · rename_i xs hx
        simp only [Option.map_eq_some_iff] at e
        obtain ⟨ys, e, rfl⟩ := e
        obtain ⟨vs, h3, h4⟩ := (show RO p io H (.lst xs) a from rm.ob j _ a hx ha)
        simp only [RV]
        refine ⟨a, vs, rfl, h3, fun z => ?_, frzs_rel rm k xs ys vs e h4⟩
        rcases z with z | z
        · have z' : a ∈ io.ix.take n := z
          obtain ⟨i, hi⟩ := List.getElem?_of_mem z'
          rw [List.getElem?_take] at hi
          split at hi
          · rename_i hin
            obtain ⟨g1, e1⟩ := List.getElem?_eq_some_iff.mp hi
            obtain ⟨g2, e2⟩ := List.getElem?_eq_some_iff.mp ha
            have := (List.getElem_inj rm.nd).mp (e1.trans e2.symm)
            omega
          · cases hi
        · exact (rm.sep a z).1 (List.mem_of_getElem? ha)
      · cases e
theorem frzs_rel (rm : RM p io H m) : ∀ (k : Nat) (xs ys : List PV) (vs : List V), frzs n m k xs = some ys → RVs p io H xs vs → RVs p (io.cut n) H ys vs
  | k, [], ys, vs, e, h => by
    simp only [frzs, Option.some.injEq] at e
    subst e
    simpa [RVs] using h
  | k, x :: xs, ys, vs, e, h => by
    simp only [frzs] at e
    split at e
    · rename_i y ys' e1 e2
      simp only [Option.some.injEq] at e
      subst e
      simp only [RVs] at h ⊢
      obtain ⟨v, r, rfl, h1, h2⟩ := h
      exact ⟨v, r, rfl, frz_rel rm k x y v e1 h1, frzs_rel rm k xs ys' r e2 h2⟩
    · cases e
end
end
/-- the store m' behind a body that began at m is cut at n -/
structure Cmp (m m' : Sto) (n : Nat) : Prop where
  le : m.length ≤ n
  old : ∀ (i : Nat) o, i < n → m'[i]? = some o → m[i]? = some o ∨ obBelow n o = true
def startE (N : Nat) (xs : List PV) : Env := xs.map some ++ List.replicate (N - xs.length) none
/-- THE WORK: the body b does what F says -/
def Sim (N n : Nat) (b : Fs) (F : Fn) : Prop := ∀ xs m x m2, xs.length = n → F xs m = some (x, m2) → ∃ fl m' x' k, b (startE N xs) m = some (.ok fl, m') ∧ (fl = .ret x' ∨ ((∃ r, fl = .next r) ∧ x' = .non)) ∧ m2 = m'.take k ∧ Cmp m m' k ∧ frz k m' deepest x' = some x
theorem startE_rel {p : Par} {io : Ad} {H : Hp} {N : List Str} {xs : List PV} {vs : List V} (h : RVs p io H xs vs) : RS p io H (startE N.length xs) (L2.start N vs) := by
  have hl := h.length
  refine ⟨by simp [startE, L2.start, hl], fun i x e => ?_⟩
  unfold startE at e
  unfold L2.start
  by_cases hi : i < xs.length
  · rw [List.getElem?_append_left (by simpa using hi), List.getElem?_map] at e
    rw [List.getElem?_append_left (by simpa [← hl] using hi), List.getElem?_map]
    cases q : xs[i]? with
    | none => rw [q] at e; cases e
    | some y =>
      rw [q] at e
      cases e
      obtain ⟨v, h1, h2⟩ := h.get q
      exact ⟨v, by rw [h1]; rfl, h2⟩
  · rw [List.getElem?_append_right (by simpa using Nat.le_of_not_lt hi)] at e
    have := List.mem_of_getElem? e
    rw [List.mem_replicate] at this
    exact absurd this.2 (by simp)
section
variable {P : Program} {w : World} {p : Par} {mg : Str → Option Value} {base : Heap}
/-- THE RULE for a def -/
theorem fn_ok {x qual : Str} {st : Stmt} {f : Addr} {fd : FuncData} {N ps : List Str} {k : Nat} {b : Fs} {F : Fn} (Fu : Fun p.K x qual st f fd) (S : FnScope N ps (defScope st))
    (hb : ∀ (cdv : Value) (A : Around) (outer : List PySem.Env) (s : Shared) (H : Hp) (E : XK), Room k (A.deeper (envOfC qual (defScope st) s.heap.objs.size f cdv)) → Good p W0 (cxOf CX0 P w p.K mg base N qual (defScope st) f cdv A outer s H E).nox →
      PSs (cxOf CX0 P w p.K mg base N qual (defScope st) f cdv A outer s H E).nox (defBody st) (tS p W0 b)) (sim : Sim N.length ps.length b F) : FnOk P w p.K mg base CX0 (k + 1) f fd ps (spF p ps.length F) := by
  refine Fu.ok S (fun vs H Q E ⟨io, m, xs, rm, rv, hl, _⟩ => by rw [← rv.length]; exact hl) fun cdv A outer s H vs Q E hr ⟨io, m, xs, rm, rv, hl, post⟩ => ?_
  refine ⟨_, hb cdv A outer s H E hr ⟨rfl, S.nd, rfl, PassesOwn.never, hr.units⟩, io, startE N.length xs, m, startE_rel rv, rm, ?_⟩
  match e : F xs m, post with
  | none, post => exact post.elim
  | some (x, m2), post =>
    obtain ⟨fl, m', x', k', e1, e2, rfl, cm, ez⟩ := sim xs m x m2 hl e
    rw [e1]
    have fin : ∀ io' H' v, Adv io H io' H' → RM p io' H' m' → RV p io' H' x' v → Q v H' := fun io' H' v av rm' rv' => by
      obtain ⟨z, ez', fz⟩ := av.more
      refine post (io'.cut k') H' v ⟨⟨z.take (k' - io.ix.length), ?_, fun a ha => fz a (List.mem_of_mem_take ha)⟩, av.hide, av.tups, av.frzs, av.stay, av.dom⟩ (rm'.cut fun i o hi ho => ?_) (frz_rel rm' _ _ _ _ ez rv')
      · show io'.ix.take k' = _
        rw [ez', List.take_append]
        rw [List.take_of_length_le (by rw [rm.len]; exact cm.le)]
      · rcases cm.old i o hi ho with q | q
        · exact rm.obBelow q cm.le
        · exact q
    rcases e2 with rfl | ⟨⟨r, rfl⟩, rfl⟩
    · exact fin
    · exact fun io' H' σ' av rm' _ => fin io' H' .non av rm' (by simp [RV])
end
/-! ### a local name that holds a def -/
abbrev Tbl := Nat → Option (Nat × Fn)
def fCallV (i : Nat) (T : Tbl) (fa : Fa) : Fe := fun r m => match r[i]? with
  | some (some (.glo j)) => match T j with
    | some (n, F) => (fa r m).bind fun xs m1 => if xs.length = n then upS (F xs m1) else none
    | none => none
  | _ => none
structure HeldT (p : Par) (P : Program) (w : World) (mg : Str → Option Value) (base : Heap) (k : Nat) (T : Tbl) : Prop where
  ex : ∀ j n F, T j = some (n, F) → ∃ fd ps, FnOk P w p.K mg base CX0 k (p.FA j) fd ps (spF p n F) ∧ PySem.W.keepIn p.K (.ref (p.FA j)) = true ∧ Binds p.K fd ps []
section
variable {p : Par} {W : WX} {X : Cx} {pos q : Pos} {e : Expr} {es : List Expr} {fr : Fa} {k i : Nat} {x : Str} {T : Tbl}
theorem r_callV (g : Good p W X) (G : HeldT p X.prog X.w X.mg X.base k T) (hr : Room k X.A) (hN : X.N[i]? = some x) (hv : Vis X.env.scope x) (ha : PA X (e :: es) (tAr p W fr))
    (hdb : (x == ("__debug__" : Str)) = false := by decide) (hcd : (x == ("__classdict__" : Str)) = false := by decide)
    (he : starEach (e :: es) X.env = (false, eval e X.env) :: starEach es X.env := by rfl) (hpl : (backTo pos (starEach es X.env)).any (·.1) = false := by rfl) : PE X (.Call (.Name x q) (e :: es) [] pos) (tE p W (fCallV i T fr)) := by
  refine ⟨fun pins s σ H Q I ⟨io, r, m, rs, rm, h⟩ => ?_⟩
  unfold fCallV at h
  split at h
  · rename_i j hj
    split at h
    · rename_i n F hT
      obtain ⟨v, e1, rv⟩ := rs.at_ i _ hj
      simp only [RV] at rv
      subst rv
      obtain ⟨fd, ps, ok, hk, hb⟩ := G.ex j n F hT
      rw [← g.hK] at ok hk hb
      refine (pe_callL (i := i) (f := p.FA j) (dvs := []) (E := E0) ok hr hN hv hk hb .nil pass0 ha hdb hcd he hpl).run pins s σ H Q I ⟨e1, io, r, m, rs, rm, PostG.mono (PostG.bind h) fun xs io1 H1 m1 a1 rm1 h1 vs rvs => ?_⟩
      split at h1
      · rename_i hl
        exact ⟨io1, m1, xs, rm1, by rw [List.append_nil]; exact rvs, hl, upS_post h1⟩
      · exact h1.elim
    · exact h.elim
  · exact h.elim
end
/-! ### a statement block that throws its own objects away -/
end Mini
namespace L2
open PySem PySem.Spec PyProof.Rows
theorem meets_enum_new1 {v : Value} {o : Obj} {Hh : Heap → Prop} (B : Begins v o Hh) :
    Meets (Builtin.«enumerate.__new__» ⟨[.type "enumerate", v], []⟩) (fun _ R s => Hh s.heap ∧
      R (.ok (.ret (.ref (s.heap.push o).objs.size))) { s with heap := (s.heap.push o).push { cls := .type "enumerate", data := .fields #[.none, .bool false, .ref s.heap.objs.size, rawInt 0, .none, .none] } }) :=
  .of_wp fun prog w A R s h => by
    obtain ⟨hp, g, d, tk, os⟩ := s; obtain ⟨h1, h⟩ := h
    have hsub := sub_enumerate
    have q1 : ∀ {A' : Around} {E : Value → Shared → Prop} {Q : Value → Shared → Prop}, Q (.ref hp.objs.size) ⟨hp.push o, g, d, tk, os⟩ → wpAny (model prog w) A' (pyIter v) Q E ⟨hp, g, d, tk, os⟩ :=
      fun q => B.iter prog w _ _ ⟨hp, g, d, tk, os⟩ _ h1 q
    wp_walk using q1
    refine wpAny_stack_any fun st => wpAny_pure ?_
    split
    · rename_i c _ _ _ _ _
      cases (c == Value.type "enumerate")
      · wp_walk using q1
        exact ⟨_, rfl, h⟩
      · wp_walk using q1
        exact ⟨_, rfl, h⟩
    · wp_walk using q1
      exact ⟨_, rfl, h⟩
section
variable {prog : Program} {w : World} {A : Around} {E : Value → Shared → Prop} {s : Shared}
theorem enum_begins1 {v : Value} {o : Obj} {Hh : Heap → Prop} {Q : Value → Shared → Prop} (B : Begins v o Hh) (h1 : Hh s.heap)
    (h : ∀ h', IsEnum h' (s.heap.objs.size + 1) s.heap.objs.size 0 .none → h'.get? s.heap.objs.size = some o → h'.objs.size = s.heap.objs.size + 2 →
      (∀ b o, s.heap.get? b = some o → h'.get? b = some o) → Q (.ref (s.heap.objs.size + 1)) { s with heap := h' }) :
    wpAny (model prog w) A (call (.type "enumerate") [v]) Q E s := by
  refine callType_new F.called_enumerate (by decide) (F.typeCall_enumerate_1 _) (F.newCall_enumerate_1 _) (fun obj => F.args_object_init_2 obj _) F.entry_enumerate_new
    (meets_enum_new1 B) ⟨h1, ?_⟩
  have hz : (s.heap.push o).objs.size = s.heap.objs.size + 1 := Heap.size_push ..
  show _ ∧ _
  rw [hz]
  have he : IsEnum ((s.heap.push o).push { cls := .type "enumerate", data := .fields #[.none, .bool false, .ref s.heap.objs.size, rawInt 0, .none, .none] }) (s.heap.objs.size + 1) s.heap.objs.size 0 .none := by
    have := Heap.get?_push_size (s.heap.push o) (o := { cls := .type "enumerate", data := .fields #[.none, .bool false, .ref s.heap.objs.size, rawInt 0, .none, .none] }) rfl
    rw [hz] at this; exact this
  refine ⟨⟨_, he, rfl⟩, h _ he (Heap.get?_push_of_some _ (Heap.get?_push_size _ B.free)) (by rw [Heap.size_push, hz]) fun b o x => Heap.get?_push_of_some _ (Heap.get?_push_of_some _ x)⟩
end
theorem enum_endT {prog : Program} {w : World} {A : Around} {E : Value → Shared → Prop} {s : Shared} {e it t : Addr} {k : Int} {i : Nat} {items : Array Value} {old : Value} {Q : Option Value → Shared → Prop} (hh : A.handled = none)
    (he : IsEnum s.heap e it k old) (hit : s.heap.IsTupleIter it t i) (ht : s.heap.IsTuple t items) (hx : items[i]? = none)
    (hQ : ∀ h', Heap.ExtBut it s.heap h' → Q none { s with heap := h' }) : wpAny (model prog w) A (pyNext (.ref e)) Q E s := by
  have hT : s.TypeIs (.ref e) "enumerate" := ⟨_, he, rfl⟩
  unfold pyNext
  refine wpAny_bind (wpAny_attempt (wpAny_callSpecial?_slot (name := Str.ofString "__next__") hT F.slot_enumerate_next
    (wpAny_call_entry F.slot_enumerate_next hT F.entry_enumerate_next ?_ (F.args_enumerate_next_1 _))))
  show wpAny _ _ (field (.ref e) 2 >>= _) _ _ _
  refine wpAny_bind (wpAny_field he rfl (x := .ref it) rfl ?_)
  refine wpAny_bind (wpAny_nextOf_tuple_end (A := A.in1) hh hit ht hx fun h' x he' hx' => ?_)
  obtain ⟨o, ho, hc⟩ := hx'
  refine wpAny_bind (wpAny_isInstance (T := "StopIteration") (b := true) ⟨o, ho, hc⟩ isSubtype_stop ?_)
  exact wpAny_pure (hQ _ he')
/-- enumerate of a tuple -/
def Itet (K : PySem.W.Frag) (a : Addr) : It :=
  ⟨fun i H => ∃ (xs : List V) (x : V), SqT K H a xs ∧ xs[i]? = some x, fun i H v H' => ∃ T x, v = .ref T ∧ H T = none ∧ H' = upd H T (.tup [.int (i : Nat), x]) ∧ ∀ xs, SqT K H a xs → xs[i]? = some x, fun i H => ∃ xs : List V, SqT K H a xs ∧ xs.length ≤ i⟩
theorem turn_enumT {P : Program} {w : World} {K : PySem.W.Frag} {elts : List Expr} {kk : Nat} {tpos : Pos} (a e it : Addr) :
    Turn P w K (.Tuple elts kk tpos) (Itet K a) [e, it] e (fun i h => (∃ old, IsEnum h e it ((i : Nat) : Int) old) ∧ h.IsTupleIter it a i ∧ e ≠ it) where
  mem := by simp
  obj := fun i h st b hb => by
    obtain ⟨⟨old, he⟩, ⟨o, ho, hc, hd⟩, _⟩ := st
    have e' : b = e ∨ b = it := by simpa using hb
    rcases e' with z | z
    · rw [z]; exact ⟨_, he, fun v q => nomatch q⟩
    · rw [z]; exact ⟨o, ho, fun v q => by rw [hd] at q; cases q⟩
  keep := fun i h h' st k => let ⟨⟨old, he⟩, hi, hne⟩ := st; ⟨⟨old, k e (by simp) _ he⟩, hi.at fun o q => k it (by simp) o q, hne⟩
  item := by
    intro X hP hw hK hc i pins s σ H E I hf st hg
    subst hP hw hK
    obtain ⟨⟨old, he⟩, hit, hne⟩ := st
    obtain ⟨xs, x, hq, hx⟩ := hg
    obtain ⟨its, rv, p, hz⟩ := I.tuple hq
    have pt : s.heap.IsTuple a its.toArray := p
    have hai : a ≠ it := fun z => by
      subst z
      obtain ⟨o1, q1, c1, _⟩ := pt
      obtain ⟨o2, q2, c2, _⟩ := hit
      rw [q1] at q2
      cases q2
      rw [c1] at c2
      exact absurd c2 (by decide)
    obtain ⟨u, hu, ru⟩ := rv.get hx
    have hel : e < s.heap.objs.size := Heap.lt_size he
    have hil : it < s.heap.objs.size := by obtain ⟨_, q, _⟩ := hit; exact Heap.lt_size q
    have hea : e ∉ [it, a] := by
      intro z
      simp only [List.mem_cons, List.not_mem_nil, or_false] at z
      rcases z with z | z
      · exact hne z
      · subst z
        obtain ⟨o1, q1, c1, _⟩ := pt
        have he' : s.heap.get? e = _ := he
        rw [q1] at he'
        cases he'
        injection c1 with c1
        exact absurd c1 (by decide)
    have hil2 : i < its.toArray.size := by
      have := (List.getElem?_eq_some_iff.mp hu).1
      simpa using this
    refine wpAny_pyNext_enum_itemD (Draws.tuple (A := X.A.in1) (I.ok.hd hc) it a hai its.toArray) he ⟨hit, pt⟩ hil2 hne hea fun u' h' tk hP ho hs' hT hsz hk => ?_
    have eu : u' = u := by
      have hP' : its.toArray[i]? = some u' := hP
      rw [List.getElem?_toArray, hu] at hP'
      exact (Option.some.inj hP').symm
    subst eu
    refine ⟨_, rfl, wpAny_letOwnedTupleGo_enum (s := { s with heap := h', toks := tk + 1 }) ho fun h'' he' sb => ?_⟩
    have hT2 : h''.get? s.heap.objs.size = some { cls := .type "tuple", data := .seq #[.int i tk, u'] } := (sb.2 _ (Nat.ne_of_gt hel)).trans hT
    have new : ObjOk X.prog X.w (upd H s.heap.objs.size (.tup [.int (i : Nat), x])) h'' s.heap.objs.size (.tup [.int (i : Nat), x]) :=
      ⟨by show 2 ≤ sizeLine; decide, [.int i tk, u'], .cons ⟨_, rfl⟩ (.cons ru .nil), ⟨_, hT2, rfl, _, rfl⟩⟩
    have I1 : Inv X pins σ (upd H s.heap.objs.size (.tup [.int (i : Nat), x])) { s with heap := h'', toks := tk + 1 } :=
      I.turnedNew (ch := [e, it]) (fun b ob hb q => (sb.2 b (fun z => hb (by simp [z]))).trans (hk b ob (fun z => hb (by simp [z])) (fun z => hb (by simp [z])) q)) hf (Nat.le_refl _) new
    refine ⟨.ref s.heap.objs.size, _, I1, rfl, ⟨_, x, rfl, I.hok.fresh (Nat.le_refl _), rfl, fun ys hy => by rw [I.tuple_inj hy hq]; exact hx⟩, ⟨⟨u', ?_⟩, hs'.1.at fun o q => (sb.2 it (Ne.symm hne)).trans q, hne⟩, fun b hb => ?_⟩
    · have e1 : ((i + 1 : Nat) : Int) = (i : Int) + 1 := by omega
      rw [e1]; exact he'
    · have hb' : b < s.heap.objs.size := by
        have e' : b = e ∨ b = it := by simpa using hb
        rcases e' with z | z
        · rw [z]; exact hel
        · rw [z]; exact hil
      rw [upd_ne (Nat.ne_of_lt hb')]
      exact (hf b hb).1
  done := by
    intro X hP hw hK hc i pins s σ H E I hf st hg
    subst hP hw hK
    obtain ⟨⟨old, he⟩, hit, hne⟩ := st
    obtain ⟨xs, hq, hx⟩ := hg
    obtain ⟨its, rv, p, hz⟩ := I.tuple hq
    have pt : s.heap.IsTuple a its.toArray := p
    have hai : a ≠ it := fun z => by
      subst z
      obtain ⟨o1, q1, c1, _⟩ := pt
      obtain ⟨o2, q2, c2, _⟩ := hit
      rw [q1] at q2
      cases q2
      rw [c1] at c2
      exact absurd c2 (by decide)
    obtain ⟨f0, f1, f2, f3, f4, f5⟩ := hf it (by simp)
    have hl := rv.length
    exact enum_endT (I.ok.hd hc) he hit pt (by simp; omega) fun h' eb => ⟨rfl, I.turned (t' := s.toks) (fun b o hb q => eb b o hb q) f0 f1 f3 f4 f5⟩
  self := fun A i s Q E st h => let ⟨⟨_, he⟩, _⟩ := st; wpAny_pyIter_enum he h
def iEnumT (K : PySem.W.Frag) (ta : TA) : TI := fun σ H R => ta σ H fun vs H1 => ∃ a xs, vs = [.ref a] ∧ ((SqL K H1 a xs ∧ R (Ite K a) H1) ∨ (SqT K H1 a xs ∧ R (Itet K a) H1))
theorem pi_enumT {X : Cx} {e : Expr} {ta : TA} {p pos tpos : Pos} {elts : List Expr} {kk : Nat} (hg : Gl X "enumerate") (hm : X.mg "enumerate" = none) (ha : PA X [e] ta) (hs : starEach [e] X.env = [(false, eval e X.env)] := by rfl) :
    PI X (.Tuple elts kk tpos) (.Call (.Name "enumerate" p) [e] [] pos) (iEnumT X.K ta) := by
  refine ⟨fun pins s σ H R I h => ?_⟩
  refine Call_ (ld_blt I hg hm boot_enumerate (PyProof.Rows.callWith_type1 (thn (ha.run pos pins s σ H _ I h) fun us s1 ⟨vs, H1, I1, r1, q1⟩ => ?_) hs rfl))
  obtain ⟨a, xs, ex, q⟩ := q1
  subst ex
  cases r1 with
  | cons r rr =>
    cases rr
    cases r
    rcases q with ⟨hq, q⟩ | ⟨hq, q⟩
    · obtain ⟨its, rv, p', hz⟩ := I1.list hq
      refine call_enumerate_list p'.isList fun h' he hit hsz hk => wpAny_pyIter_enum he ?_
      have I2 : Inv X pins σ H1 { s1 with heap := h' } := I1.kept (t' := s1.toks) hk
      refine ⟨s1.heap.objs.size + 1, [s1.heap.objs.size + 1, s1.heap.objs.size], _, _, H1, rfl, I2, turn_enum a (s1.heap.objs.size + 1) s1.heap.objs.size, ⟨⟨.none, he⟩, hit, Nat.succ_ne_self _⟩, fun b hb => ?_, q⟩
      have e' : b = s1.heap.objs.size + 1 ∨ b = s1.heap.objs.size := by simpa using hb
      have hle : s1.heap.objs.size ≤ b := by
        rcases e' with z | z
        · rw [z]; exact Nat.le_add_right _ _
        · rw [z]; exact Nat.le_refl _
      exact I1.fpOk hle (I1.hok.fresh hle)
    · obtain ⟨its, rv, p', hz⟩ := I1.tuple hq
      refine enum_begins1 (begins_tuple a its.toArray) p' fun h' he ho hsz hk => wpAny_pyIter_enum he ?_
      have I2 : Inv X pins σ H1 { s1 with heap := h' } := I1.kept (t' := s1.toks) hk
      refine ⟨s1.heap.objs.size + 1, [s1.heap.objs.size + 1, s1.heap.objs.size], _, _, H1, rfl, I2, turn_enumT a (s1.heap.objs.size + 1) s1.heap.objs.size, ⟨⟨.none, he⟩, ⟨_, ho, rfl, rfl⟩, Nat.succ_ne_self _⟩, fun b hb => ?_, q⟩
      have e' : b = s1.heap.objs.size + 1 ∨ b = s1.heap.objs.size := by simpa using hb
      have hle : s1.heap.objs.size ≤ b := by
        rcases e' with z | z
        · rw [z]; exact Nat.le_add_right _ _
        · rw [z]; exact Nat.le_refl _
      exact I1.fpOk hle (I1.hok.fresh hle)
end L2
namespace Mini
open PySem L2
/-- enumerate of a list or a tuple -/
def iEnumA (fa : Fa) : Fi := fun r m => (fa r m).bind fun xs m1 => match xs with
  | [x] => match srcS x m1 with
    | some s => some (.ok ⟨s.items.zipIdx.map fun q => .tup [.int q.2, q.1], s.gs⟩, m1)
    | none => none
  | _ => none
section
variable {p : Par} {W : WX} {X : Cx} {pos pos' q tpos : Pos} {tgx a b c e iter : Expr} {es elts : List Expr} {kk : Nat} {fe : Fe} {fr : Fa} {fi : Fi}
theorem enum_item {xs : List PV} {i : Nat} {x : PV} (hx : (xs.zipIdx.map fun q => PV.tup [.int q.2, q.1])[i]? = some x) : ∃ y, xs[i]? = some y ∧ x = .tup [.int (i : Nat), y] := by
  rw [List.getElem?_map, Option.map_eq_some_iff] at hx
  obtain ⟨⟨y, k⟩, hy, rfl⟩ := hx
  rw [List.getElem?_zipIdx, Option.map_eq_some_iff] at hy
  obtain ⟨y', hy, e⟩ := hy
  simp only [Prod.mk.injEq] at e
  obtain ⟨rfl, rfl⟩ := e
  exact ⟨y', hy, by simp⟩
theorem i_enumA (g : Good p W X) (hg : Gl X "enumerate") (hm : X.mg "enumerate" = none) (ha : PA X [e] (tAr p W fr)) (hs : starEach [e] X.env = [(false, eval e X.env)] := by rfl) : PI X (.Tuple elts kk tpos) (.Call (.Name "enumerate" q) [e] [] pos) (tI p W (iEnumA fr)) := by
  refine (pi_enumT hg hm ha hs).weak fun σ H R ⟨io, r, m, rs, rm, h⟩ => ⟨io, r, m, rs, rm, PostG.mono (PostG.bind h) fun xs io1 H1 m1 a1 rm1 h1 vs rvs => ?_⟩
  split at h1
  case h_2 => exact h1.elim
  rename_i y
  split at h1
  case h_2 => exact h1.elim
  rename_i s hs
  simp only [RVs] at rvs
  obtain ⟨v, _, rfl, rv, rfl⟩ := rvs
  have lis : srcQ y m1 = some s → ∃ a xs, [v] = [V.ref a] ∧ ((SqL X.K H1 a xs ∧ R (Ite X.K a) H1) ∨ (SqT X.K H1 a xs ∧ R (Itet X.K a) H1)) := fun hs => by
    obtain ⟨a, vs, rfl, s1, rv1, ok, fut⟩ := srcQ_rel rm1 hs rv
    refine ⟨a, vs, rfl, .inl ⟨by rw [g.hK]; exact s1, PostG.of_ok rm1 h1 _ H1 (.refl _ _) rm1 ?_⟩⟩
    intro i io' H' m' av rm' ok'
    obtain ⟨ws, h3, h4⟩ := fut io' H' m' av rm' ok'
    rw [← g.hK] at h3
    have wk := walk_enum (K := X.K) (a := a) (xs := ws)
    refine ⟨fun x hx => ?_, fun hl => ⟨ws, h3, by rw [← h4.length]; simpa using hl⟩⟩
    obtain ⟨y', hy, rfl⟩ := enum_item hx
    obtain ⟨w, hw, rw'⟩ := h4.get hy
    have hi : i < ws.length := (List.getElem?_eq_some_iff.mp hw).1
    refine ⟨wk.goes i H' hi h3, fun v H2 yy => ?_⟩
    obtain ⟨T, x1, x2, rfl, hT, rfl, e1, e2⟩ := wk.yields i H' v H2 hi h3 yy
    cases e1
    have e2 : ws[i]? = some x2 := e2
    rw [hw] at e2
    cases e2
    exact pair_yld (x := .int (i : Nat)) (y := y') (v := .int (i : Nat)) rm' hT (by simp [RV]) rw'
  cases y with
  | tup xs =>
    simp only [srcS, Option.some.injEq] at hs
    subst hs
    simp only [RV] at rv
    obtain ⟨a, vs, rfl, s1, rv1⟩ := rv
    refine ⟨a, vs, rfl, .inr ⟨by rw [g.hK]; exact s1, PostG.of_ok rm1 h1 _ H1 (.refl _ _) rm1 ?_⟩⟩
    intro i io' H' m' av rm' ok'
    have h3 := av.sqT s1
    have h4 := rv1.mono av
    rw [← g.hK] at h3
    refine ⟨fun x hx => ?_, fun hl => ⟨vs, h3, by rw [← h4.length]; simpa using hl⟩⟩
    obtain ⟨y', hy, rfl⟩ := enum_item hx
    obtain ⟨w, hw, rw'⟩ := h4.get hy
    refine ⟨⟨vs, w, h3, hw⟩, fun v H2 yy => ?_⟩
    obtain ⟨T, x2, rfl, hT, rfl, e2⟩ := yy
    have e2 := e2 vs h3
    rw [hw] at e2
    cases e2
    exact pair_yld (x := .int (i : Nat)) (y := y') (v := .int (i : Nat)) rm' hT (by simp [RV]) rw'
  | lst ys => exact lis (by simpa only [srcS] using hs)
  | ref ys => exact lis (by simpa only [srcS] using hs)
  | _ => simp [srcS, srcQ] at hs
/-- what is walked: a list, a tuple, a text -/
def srcA (x : PV) (m : Sto) : Option Src := match x with
  | .str z => some ⟨z.map fun c => .str [c], []⟩
  | x => srcS x m
def iAny (fe : Fe) : Fi := fun r m => (fe r m).bind fun x m1 => match srcA x m1 with
  | some s => some (.ok s, m1)
  | none => none
end
end Mini
namespace L2
open PySem PySem.Spec PyProof.Rows
def iAnyT (K : PySem.W.Frag) (te : TE) : TI := fun σ H R => te σ H fun v H1 => (∃ a xs, v = .ref a ∧ SqL K H1 a xs ∧ R (Itl K a) H1) ∨ (∃ a xs, v = .ref a ∧ SqT K H1 a xs ∧ R (Itt K a) H1) ∨ ∃ x, v = .str x ∧ R (Its x) H1
theorem pi_any {X : Cx} {tg e : Expr} {te : TE} (he : PE X e te) : PI X tg e (iAnyT X.K te) := by
  refine ⟨fun pins s σ H R I h => ?_⟩
  refine thn (he.run pins s σ H _ I h) fun v s1 ⟨x, H1, I1, r1, q1⟩ => ?_
  rcases q1 with ⟨a, xs, e, hq, q⟩ | ⟨a, xs, e, hq, q⟩ | ⟨x', e, q⟩
  · subst e
    cases r1
    obtain ⟨its, rv, p, hz⟩ := I1.list hq
    refine wpAny_pyIter_list p.isList ?_
    refine ⟨s1.heap.objs.size, [s1.heap.objs.size], _, _, H1, rfl, I1.kept (t' := s1.toks) fun b o e => Heap.get?_push_of_some _ e, turn_list a _, ⟨_, Heap.get?_push_size _ rfl, rfl, rfl⟩, fun b hb => ?_, q⟩
    have e : b = s1.heap.objs.size := by simpa using hb
    subst e
    exact I1.fpOk (Nat.le_refl _) (I1.hok.fresh (Nat.le_refl _))
  · subst e
    cases r1
    obtain ⟨its, rv, p, hz⟩ := I1.tuple hq
    refine wpAny_pyIter_tuple (show s1.heap.IsTuple a its.toArray from p) ?_
    refine ⟨s1.heap.objs.size, [s1.heap.objs.size], _, _, H1, rfl, I1.kept (t' := s1.toks) fun b o e => Heap.get?_push_of_some _ e, turn_tuple a _, ⟨_, Heap.get?_push_size _ rfl, rfl, rfl⟩, fun b hb => ?_, q⟩
    have e : b = s1.heap.objs.size := by simpa using hb
    subst e
    exact I1.fpOk (Nat.le_refl _) (I1.hok.fresh (Nat.le_refl _))
  · subst e
    obtain ⟨t, rfl⟩ := r1
    cases ha : x'.cps.all (· < 128)
    · exact wpAny_pyIter_wide ha (pi_one (tk := s1.toks) I1 _ (turn_str _ x' t "str_iterator" (.inr rfl)) ⟨_, Heap.get?_push_size _ rfl, rfl, rfl⟩ q)
    · exact wpAny_pyIter_ascii ha (pi_one (tk := s1.toks) I1 _ (turn_str _ x' t "str_ascii_iterator" (.inl rfl)) ⟨_, Heap.get?_push_size _ rfl, rfl, rfl⟩ q)
/-- xs[i], to be changed -/
def rGetL (K : PySem.W.Frag) : V → V → Hp → VK → Prop := fun x y H Q => ∃ p xs i v, x = .ref p ∧ y = .int i ∧ SqL K H p xs ∧ atI xs i = some v ∧ Q v H
theorem get_list {X : Cx} : PGet X (rGetL X.K) := by
  intro pins s σ H x y v u Q I rx ry h
  obtain ⟨p, xs, i, z, rfl, rfl, hq, he, q⟩ := h
  cases rx
  obtain ⟨t, rfl⟩ := ry
  obtain ⟨its, r, pl, hz⟩ := I.list hq
  obtain ⟨j, h1, h2, h3, h4, h5⟩ := atI_get he
  obtain ⟨w, ew, rw'⟩ := r.get h2
  have hl := r.length
  have hn := line63
  have fin : EP X pins σ Q w s := ⟨z, H, I, rw', q⟩
  by_cases h0 : 0 ≤ i
  · have hj : i.toNat = j := by
      rw [seqIndex_of h0 h5] at h1
      exact Option.some.inj h1
    exact wpAny_getItem_list pl.isList h0 (by omega) (x := w) (by rw [hj]; simpa using ew) fin
  · have hj : (i + (its.toArray.size : Int)).toNat = j := by
      rw [seqIndex_neg (by omega) h4] at h1
      rw [List.size_toArray, ← hl]
      exact Option.some.inj h1
    exact wpAny_getItem_list_neg pl.isList (by omega) (by rw [List.size_toArray] <;> omega) (by omega) (x := w) (by rw [hj]; simpa using ew) fin
/-- set(a tuple of ints), thrown into sorted -/
def rSetT (K : PySem.W.Frag) (w : World) : List V → Hp → VK → Prop := fun vs H Q => ∃ (a : Addr) (ns : List Int), vs = [.ref a] ∧ SqT K H a (ns.map V.int) ∧ ns.length + 1 < scanBound ∧ ∀ p n, n ≤ ns.length → H p = none → Q (.ref p) (upd H p (SetO w p (fun j => decide (j ∈ ns)) n))
theorem cr_setT {X : Cx} (hc : X.calm = true) : CallR X (.type "set") (rSetT X.K X.w) := by
  intro pins s σ H vs us Q I r h
  obtain ⟨a, ns, rfl, hq, hb, q⟩ := h
  rw [Vals.ref1 r]
  obtain ⟨its, rv, p, hz⟩ := I.tuple hq
  have hia := Vals.ints rv
  refine call_set_tupI ns (I.ok.hd hc) (show s.heap.IsTuple a its.toArray from p) (by simpa using hia) hb fun h' tk c new hc hk => ?_
  exact ⟨.ref _, upd H s.heap.objs.size (SetO X.w s.heap.objs.size _ c), I.laid (t' := tk) hk (Nat.le_refl _) (setO_new new), rfl, q _ c hc (I.hok.fresh (Nat.le_refl _))⟩
end L2
namespace Mini
open PySem L2
section
variable {p : Par} {W : WX} {X : Cx} {pos pos' q q2 tpos : Pos} {tgx a b c e o i iter value : Expr} {es elts : List Expr} {kk : Nat} {fe fo fi' : Fe} {fr : Fa} {fi : Fi}
theorem srcQ_lis {io : Ad} {H1 : Hp} {σ : St} {m1 : Sto} {v : V} {x : PV} {s : Src} {R : It → Hp → Prop} (g : Good p W X) (rm1 : RM p io H1 m1) (hs : srcQ x m1 = some s) (rv : RV p io H1 x v)
    (h1 : PostG p W io H1 σ (some (.ok s, m1)) fun s io' H' m' => ∀ J H2, Adv io' H' io' H2 → RM p io' H2 m' → Feeds p s J io' H2 → R J H2) : ∃ a xs, v = .ref a ∧ SqL X.K H1 a xs ∧ R (Itl X.K a) H1 := by
  obtain ⟨a, vs, rfl, s1, rv1, ok, fut⟩ := srcQ_rel rm1 hs rv
  refine ⟨a, vs, rfl, by rw [g.hK]; exact s1, PostG.of_ok rm1 h1 _ H1 (.refl _ _) rm1 ?_⟩
  intro i io' H' m' av rm' ok'
  obtain ⟨ws, h3, h4⟩ := fut io' H' m' av rm' ok'
  rw [← g.hK] at h3
  refine ⟨fun x hx => ?_, fun hl => ⟨ws, h3, by rw [← h4.length]; exact hl⟩⟩
  obtain ⟨w, hw, rw'⟩ := h4.get hx
  refine ⟨⟨ws, w, h3, hw⟩, fun v H2 y => ?_⟩
  obtain ⟨rfl, y⟩ := y
  have := y ws h3
  rw [hw] at this
  cases this
  exact ⟨.refl _ _, rm', rw'⟩
theorem i_any (g : Good p W X) (he : PE X e (tE p W fe)) : PI X tgx e (tI p W (iAny fe)) := by
  refine (pi_any he).weak fun σ H R ⟨io, r, m, rs, rm, h⟩ => ⟨io, r, m, rs, rm, PostG.mono (PostG.bind h) fun x io1 H1 m1 a1 rm1 h1 v rv => ?_⟩
  split at h1
  case h_2 => exact h1.elim
  rename_i s hs
  cases x with
  | str z =>
    simp only [srcA, Option.some.injEq] at hs
    subst hs
    simp only [RV] at rv
    refine .inr (.inr ⟨mkS z, rv, PostG.of_ok rm1 h1 _ H1 (.refl _ _) rm1 ?_⟩)
    intro i io' H' m' av rm' ok'
    have sz : (mkS z).cps.size = z.length := by simp [mkS]
    have wk := walk_str (z := mkS z)
    rw [sz] at wk
    refine ⟨fun x hx => ?_, fun hl => ?_⟩
    · rw [List.getElem?_map, Option.map_eq_some_iff] at hx
      obtain ⟨c, hc, rfl⟩ := hx
      have hi : i < z.length := (List.getElem?_eq_some_iff.mp hc).1
      refine ⟨wk.goes i H' hi trivial, fun v H2 y => ?_⟩
      obtain ⟨rfl, c', hc', rfl⟩ := wk.yields i H' v H2 hi trivial y
      have : c' = c := by
        have e1 : (mkS z).cps[i]? = z[i]? := by simp [mkS]
        rw [e1, hc] at hc'
        exact (Option.some.inj hc').symm
      subst this
      exact ⟨.refl _ _, rm', by simp [RV, mkS]⟩
    · have : (mkS z).cps.size ≤ i := by rw [sz]; simpa using hl
      exact this
  | tup xs =>
    simp only [srcA, srcS, Option.some.injEq] at hs
    subst hs
    simp only [RV] at rv
    obtain ⟨a, vs, rfl, s1, rv1⟩ := rv
    refine .inr (.inl ⟨a, vs, rfl, by rw [g.hK]; exact s1, PostG.of_ok rm1 h1 _ H1 (.refl _ _) rm1 ?_⟩)
    intro i io' H' m' av rm' ok'
    have h3 := av.sqT s1
    have h4 := rv1.mono av
    rw [← g.hK] at h3
    refine ⟨fun x hx => ?_, fun hl => ⟨vs, h3, by rw [← h4.length]; exact hl⟩⟩
    obtain ⟨w, hw, rw'⟩ := h4.get hx
    refine ⟨⟨vs, w, h3, hw⟩, fun v H2 y => ?_⟩
    obtain ⟨rfl, y⟩ := y
    have := y vs h3
    rw [hw] at this
    cases this
    exact ⟨.refl _ _, rm', rw'⟩
  | lst xs => exact .inl (srcQ_lis g rm1 (by simpa only [srcA, srcS] using hs) rv h1)
  | ref n => exact .inl (srcQ_lis g rm1 (by simpa only [srcA, srcS] using hs) rv h1)
  | _ => simp [srcA, srcS, srcQ] at hs
/-- xs[i] op= e -/
theorem s_augIx {op : Operator} {gg : PV → PV → Sto → Option PV} (g : Good p W X) (ho : PE X o (tE p W fo)) (hi : PE X i (tE p W fi')) (he : PE X e (tE p W fe)) (hp : PIp X op (rV2 p gg))
    (ha : ∀ ov iv new, augStore i ov iv new = (do holding [new, ov, iv] (setItem ov iv new); release [new, ov, iv] []; pure .next) := by intros; rfl) : PS X (.AugAssign (.Subscript o i tpos) op e pos) (tS p W (sAugIx gg fo fi' fe)) := by
  refine (ps_augS ho hi get_list he hp set_list ha).weak fun D σ H ⟨io, r, m, rs, rm, h⟩ => ⟨io, r, m, rs, rm, PostG.mono (PostS.bind h) fun y io1 H1 m1 a1 rm1 h1 w rw' => ?_⟩
  refine ⟨io1, r, m1, rs.mono a1, rm1, PostG.mono (PostS.bind h1) fun z io2 H2 m2 a2 rm2 h2 u ru => ?_⟩
  split at h2
  case h_2 => exact h2.elim
  rename_i xs k hx
  split at h2
  case h_2 => exact h2.elim
  rename_i x hat
  have rw2 := rw'.mono a2
  obtain ⟨a, vs, ev, s1, r1⟩ := rdL_rel rm2 hx rw2
  simp only [RV] at ru
  obtain ⟨vx, hvx, rvx⟩ := r1.atI hat
  refine ⟨a, vs, k, vx, ev, ru, by exact .of s1, hvx, io2, r, m2, (rs.mono a1).mono a2, rm2, PostG.mono (PostS.bind h2) fun y2 io3 H3 m3 a3 rm3 h3 v3 rv3 => ?_⟩
  refine ⟨io3, m3, x, y2, rm3, rvx.mono a3, rv3, ?_⟩
  split at h3
  case h_2 => exact h3.elim
  rename_i z3 hz3
  rw [hz3]
  intro H4 v4 a4 rm4 rv4
  split at h3
  case h_2 => exact h3.elim
  rename_i n ys hl
  split at h3
  case h_2 => exact h3.elim
  rename_i j hj
  obtain ⟨_, _, a', vs', ev', ea, hH, rvs⟩ := lstOf_rel rm4 hl ((rw2.mono a3).mono a4)
  rw [ev] at ev'
  cases ev'
  obtain ⟨av, rm5⟩ := set_lst (xs' := ys.set j z3) rm4 ea hH (rvs.set j rv4)
  exact ⟨a, vs', k, j, ev, ru, hH, by rw [← rvs.length]; exact hj, h3 io3 _ σ (a4.trans av) rm5 (rs.mono (a1.trans (a2.trans (a3.trans (a4.trans av)))))⟩
/-! ### sorted(set(tuple of ints)) -/
def intsOf : List PV → Option (List Int)
  | [] => some []
  | .int i :: r => (intsOf r).map (i :: ·)
  | _ => none
theorem intsOf_is : ∀ {xs : List PV} {ns : List Int}, intsOf xs = some ns → xs = ns.map PV.int
  | [], _, e => by simp only [intsOf, Option.some.injEq] at e; subst e; rfl
  | .int i :: r, _, e => by
    simp only [intsOf, Option.map_eq_some_iff] at e
    obtain ⟨ns, e, rfl⟩ := e
    rw [intsOf_is e]
    rfl
  | .non :: _, _, e => by simp [intsOf] at e
  | .bl _ :: _, _, e => by simp [intsOf] at e
  | .str _ :: _, _, e => by simp [intsOf] at e
  | .tup _ :: _, _, e => by simp [intsOf] at e
  | .lst _ :: _, _, e => by simp [intsOf] at e
  | .dct _ _ :: _, _, e => by simp [intsOf] at e
  | .ref _ :: _, _, e => by simp [intsOf] at e
  | .glo _ :: _, _, e => by simp [intsOf] at e
  | .ty _ :: _, _, e => by simp [intsOf] at e
theorem intsOf_map : ∀ (ns : List Int), intsOf (ns.map PV.int) = some ns
  | [] => rfl
  | n :: ns => by simp [intsOf, intsOf_map ns]
theorem RVs.ints {io : Ad} {H : Hp} : ∀ (ns : List Int) {vs : List V}, RVs p io H (ns.map PV.int) vs → vs = ns.map V.int
  | [], _, h => by simpa [RVs] using h
  | n :: ns, _, h => by
    simp only [List.map_cons, RVs, RV] at h
    obtain ⟨v, r, rfl, rfl, h⟩ := h
    rw [RVs.ints ns h]
    rfl
theorem RVs.ofInts {io : Ad} {H : Hp} : ∀ (ns : List Int), RVs p io H (ns.map PV.int) (ns.map V.int)
  | [] => by simp [RVs]
  | n :: ns => by simp only [List.map_cons, RVs, RV]; exact ⟨_, _, rfl, rfl, RVs.ofInts ns⟩
def insU (x : Int) : List Int → List Int
  | [] => [x]
  | y :: ys => if x < y then x :: y :: ys else if x = y then y :: ys else y :: insU x ys
def sdd (xs : List Int) : List Int := xs.foldr insU []
theorem mem_insU {x k : Int} : ∀ {ys : List Int}, k ∈ insU x ys ↔ k = x ∨ k ∈ ys
  | [] => by simp [insU]
  | y :: ys => by
    unfold insU
    split
    · simp
    · split
      · rename_i h
        subst h
        simp
      · simp only [List.mem_cons, mem_insU (ys := ys)]
        constructor
        · rintro (h | h | h) <;> simp [h]
        · rintro (h | h | h) <;> simp [h]
theorem pw_insU {x : Int} : ∀ {ys : List Int}, ys.Pairwise (· < ·) → (insU x ys).Pairwise (· < ·)
  | [], _ => by simp [insU]
  | y :: ys, h => by
    unfold insU
    rw [List.pairwise_cons] at h
    split
    · rename_i hx
      rw [List.pairwise_cons, List.pairwise_cons]
      refine ⟨fun z hz => ?_, h⟩
      rcases List.mem_cons.mp hz with rfl | hz
      · exact hx
      · exact Int.lt_trans hx (h.1 z hz)
    · split
      · rw [List.pairwise_cons]; exact h
      · rename_i h1 h2
        rw [List.pairwise_cons]
        refine ⟨fun z hz => ?_, pw_insU h.2⟩
        rcases mem_insU.mp hz with rfl | hz
        · omega
        · exact h.1 z hz
theorem mem_sdd {k : Int} : ∀ {xs : List Int}, k ∈ sdd xs ↔ k ∈ xs
  | [] => by simp [sdd]
  | x :: xs => by
    show k ∈ insU x (sdd xs) ↔ _
    rw [mem_insU, mem_sdd (xs := xs), List.mem_cons]
theorem pw_sdd : ∀ (xs : List Int), (sdd xs).Pairwise (· < ·)
  | [] => by simp [sdd]
  | x :: xs => pw_insU (pw_sdd xs)
theorem pw_uniq : ∀ {xs ys : List Int}, xs.Pairwise (· < ·) → ys.Pairwise (· < ·) → (∀ k, k ∈ xs ↔ k ∈ ys) → xs = ys
  | [], [], _, _, _ => rfl
  | [], y :: ys, _, _, h => by have := (h y).mpr (by simp); simp at this
  | x :: xs, [], _, _, h => by have := (h x).mp (by simp); simp at this
  | x :: xs, y :: ys, h1, h2, h => by
    rw [List.pairwise_cons] at h1 h2
    have e : x = y := by
      have a := (h x).mp (by simp)
      have b := (h y).mpr (by simp)
      rcases List.mem_cons.mp a with a | a
      · exact a
      · rcases List.mem_cons.mp b with b | b
        · exact b.symm
        · have := h2.1 x a
          have := h1.1 y b
          omega
    subst e
    rw [pw_uniq h1.2 h2.2 fun k => ?_]
    constructor
    · intro hk
      rcases List.mem_cons.mp ((h k).mp (List.mem_cons_of_mem _ hk)) with e | e
      · have := h1.1 k hk
        omega
      · exact e
    · intro hk
      rcases List.mem_cons.mp ((h k).mpr (List.mem_cons_of_mem _ hk)) with e | e
      · have := h2.1 k hk
        omega
      · exact e
def vSortSet : PV → Sto → Option PV := fun x _ => match x with
  | .tup xs => match intsOf xs with
    | some ns => if ns.length < 63 then some (.lst ((sdd ns).map PV.int)) else none
    | none => none
  | _ => none
theorem r_sortedSet (g : Good p W X) (hg : Gl X "sorted") (hm : X.mg "sorted" = none) (hg2 : Gl X "set") (hm2 : X.mg "set" = none) (he : PE X e (tE p W fe))
    (h1 : starEach [e] X.env = (false, eval e X.env) :: starEach [] X.env := by rfl) (h2 : (backTo pos' (starEach [] X.env)).any (·.1) = false := by rfl)
    (h3 : starEach [.Call (.Name "set" q2) [e] [] pos'] X.env = (false, eval (.Call (.Name "set" q2) [e] [] pos') X.env) :: starEach [] X.env := by rfl) (h4 : (backTo pos (starEach [] X.env)).any (·.1) = false := by rfl) :
    PE X (.Call (.Name "sorted" q) [.Call (.Name "set" q2) [e] [] pos'] [] pos) (tE p W (f1 vSortSet fe)) := by
  refine (pe_callB (cr_sortedSet g.calm) hg hm (by decide +kernel) (pa_cons (pe_callTy (cr_setT g.calm) hg2 hm2 (by decide +kernel) (pa_cons he pa_nil h1) (by decide) (by decide) h1 h2) pa_nil h3) (by decide) (by decide) h3 h4).weak fun σ H Q ⟨io, r, m, rs, rm, h⟩ => ⟨io, r, m, rs, rm, PostG.mono (PostG.bind h) fun x io1 H1 m1 a1 rm1 h1 v rv => ?_⟩
  have q := h1.val
  unfold vSortSet at q
  split at q
  case h_2 => exact q.elim
  rename_i xs
  split at q
  case h_2 => exact q.elim
  rename_i ns hns
  split at q
  case isFalse => exact q.elim
  rename_i hz
  simp only [RV] at rv
  obtain ⟨a, vs, rfl, s1, r1⟩ := rv
  rw [intsOf_is hns] at r1
  have e1 := RVs.ints ns r1
  subst e1
  refine ⟨a, ns, rfl, by rw [g.hK]; exact s1, by show ns.length + 1 < 4096; omega, fun pa n hn hpa => ?_⟩
  refine ⟨pa, _, n, rfl, upd_same, by omega, fun ms pb hpw hmem hlen hpb => ?_⟩
  have e2 : ms = sdd ns := pw_uniq hpw (pw_sdd ns) fun k => by
    rw [hmem k, mem_sdd]
    simp
  subst e2
  have l1 : Adv io1 H1 io1 (upd H1 pa (SetO X.w pa (fun j => decide (j ∈ ns)) n)) := .laid hpa
  have rm2 := rm1.laid (o := SetO X.w pa (fun j => decide (j ∈ ns)) n) hpa
  have l2 : Adv io1 (upd H1 pa (SetO X.w pa (fun j => decide (j ∈ ns)) n)) io1 (upd (upd H1 pa (SetO X.w pa (fun j => decide (j ∈ ns)) n)) pb (.lst ((sdd ns).map V.int))) := .laid hpb
  have rm3 := rm2.laid (o := .lst ((sdd ns).map V.int)) hpb
  refine q _ (.ref pb) (l1.trans l2) rm3 ?_
  simp only [RV]
  exact ⟨pb, _, rfl, upd_same, rm2.notin hpb, RVs.ofInts _⟩
theorem rv {x : Str} (i : Nat) (hN : X.N[i]? = some x := by rfl) (hv : Vis X.env.scope x := by first | exact Or.inl rfl | exact Or.inr (Or.inl rfl) | exact Or.inr (Or.inr rfl)) (hd : (x == ("__debug__" : Str)) = false := by decide) (hcd : (x == ("__classdict__" : Str)) = false := by decide) : PE X (.Name x pos) (tE p W (fVar i)) := r_var hN hv hd hcd
theorem gn {x : Str} (g : Good p W X) (i : Nat) (hi : X.N[i]? = some x := by rfl) (hx : Loc X.env.scope x := by first | exact Or.inl rfl | exact Or.inr rfl) (hf : X.fn x = true ∨ X.env.scope.names.lookup x = some .local := by first | exact .inl rfl | exact .inr rfl | assumption) : PG X (.Name x pos) (gT p (.nm i)) := g_name g hi hx hf
/-- how long a while may go on -/
def fuel : Nat := 1000000000
end
end Mini
namespace Mini
open PySem L2
/-! ### running meanings by rewriting -/
section
variable {α β : Type} {r : Env} {m : Sto} {fa fb fc fe fo fi : Fe} {ft fu : Ft} {fr : Fa} {fl fh : Fo} {s t : Fs} {g g' : PV → PV → Sto → Option PV} {F : Fn} {gl : List PV → Sto → Option PV} {k : PV → Sto → Option PV} {x : PV} {tg : Tg} {src : Src}
@[simp ↓] theorem e_bind (x : Res α) (k : α → Sto → Res β) : Res.bind x k = match x with | none => none | some (.ok a, m) => k a m | some (.ex c fs, m) => some (.ex c fs, m) := rfl
@[simp ↓] theorem e_var (i : Nat) : fVar i r m = match r[i]? with | some (some v) => some (.ok v, m) | _ => none := rfl
@[simp ↓] theorem e_C (v : PV) : fC v r m = some (.ok v, m) := rfl
@[simp] theorem e_up (v : PV) : up (some v) m = some (.ok v, m) := rfl
@[simp ↓] theorem e_1 : f1 k fa r m = (fa r m).bind fun x m1 => up (k x m1) m1 := rfl
@[simp ↓] theorem e_2 : f2 g fa fb r m = (fa r m).bind fun x m1 => (fb r m1).bind fun y m2 => up (g x y m2) m2 := rfl
@[simp ↓] theorem e_tst : fTst fa r m = (fa r m).bind fun x m1 => match x with
  | .bl b => some (.ok b, m1)
  | _ => none := rfl
@[simp ↓] theorem e_notT : fNotT ft r m = (ft r m).bind fun b m1 => some (.ok (!b), m1) := rfl
@[simp ↓] theorem e_andT : fAndT ft fu r m = (ft r m).bind fun b m1 => if b then fu r m1 else some (.ok false, m1) := rfl
@[simp ↓] theorem e_orT : fOrT ft fu r m = (ft r m).bind fun b m1 => if b then some (.ok true, m1) else fu r m1 := rfl
@[simp ↓] theorem e_not : fNot fa r m = (fa r m).bind fun x m1 => match x with
  | .bl b => some (.ok (.bl (!b)), m1)
  | _ => none := rfl
@[simp ↓] theorem e_and : fAnd fa fb r m = (fa r m).bind fun x m1 => match x with
  | .bl b => if b then fb r m1 else some (.ok (.bl false), m1)
  | _ => none := rfl
@[simp ↓] theorem e_or : fOr fa fb r m = (fa r m).bind fun x m1 => match x with
  | .bl b => if b then some (.ok (.bl true), m1) else fb r m1
  | _ => none := rfl
@[simp ↓] theorem e_if : fIf ft fa fb r m = (ft r m).bind fun b m1 => if b then fa r m1 else fb r m1 := rfl
@[simp ↓] theorem e_chain : fChain g g' fa fb fc r m = (fa r m).bind fun x m1 => (fb r m1).bind fun y m2 => match g x y m2 with
  | some (.bl k) => if k then (fc r m2).bind fun z m3 => up (g' y z m3) m3 else some (.ok (.bl false), m2)
  | _ => none := rfl
@[simp ↓] theorem e_nil : aNil r m = some (.ok [], m) := rfl
@[simp ↓] theorem e_cons : aCons fa fr r m = (fa r m).bind fun x m1 => (fr r m1).bind fun xs m2 => some (.ok (x :: xs), m2) := rfl
@[simp ↓] theorem e_star : aStar fa fr r m = (fa r m).bind fun x m1 => match rdS x m1 with
  | some xs => (fr r m1).bind fun ys m2 => some (.ok (xs ++ ys), m2)
  | none => none := rfl
@[simp ↓] theorem e_tup : fTup fr r m = (fr r m).bind fun xs m1 => if xs.length ≤ sizeLine then some (.ok (.tup xs), m1) else none := rfl
@[simp ↓] theorem e_disp : lDisp fr r m = (fr r m).bind fun xs m1 => if xs.length ≤ sizeLine then some (.ok xs, m1) else none := rfl
@[simp ↓] theorem e_lst : fLst fr r m = (fr r m).bind fun xs m1 => some (.ok (.lst xs), m1) := rfl
@[simp ↓] theorem e_alloc : fAlloc fr r m = (fr r m).bind fun xs m1 => some (.ok (.ref m1.length), m1 ++ [.lst xs]) := rfl
@[simp ↓] theorem e_blt : fBlt gl fr r m = (fr r m).bind fun xs m1 => up (gl xs m1) m1 := rfl
@[simp ↓] theorem e_sl : fSl fe fl fh r m = (fe r m).bind fun x m1 => (fl r m1).bind fun l m2 => (fh r m2).bind fun h m3 => up (vSl x l h m3) m3 := rfl
@[simp ↓] theorem e_oN : oNone r m = some (.ok none, m) := rfl
@[simp ↓] theorem e_oS : oSome fe r m = (fe r m).bind fun x m1 => match x with
  | .int i => some (.ok (some i), m1)
  | _ => none := rfl
@[simp ↓] theorem e_cl (n : Nat) : fCl n F fr r m = (fr r m).bind fun xs m1 => if xs.length = n then upS (F xs m1) else none := rfl
@[simp ↓] theorem e_mt (c : Nat) (mth : String) (n : Nat) : fMt c mth n F fo fr r m = (fo r m).bind fun x m1 => match insOf x m1 with
  | some (_, c', fs) => if c' = c ∧ fs.lookup mth = none then (fr r m1).bind fun xs m2 => if xs.length + 1 = n then upS (F (x :: xs) m2) else none else none
  | none => none := rfl
@[simp ↓] theorem e_mk (c n : Nat) : fMk c n F fr r m = (fr r m).bind fun xs m1 => if xs.length + 1 = n then match F (.ref m1.length :: xs) (m1 ++ [.ins c []]) with
  | some (.non, m2) => some (.ok (.ref m1.length), m2)
  | _ => none else none := rfl
@[simp ↓] theorem e_callV (i : Nat) (T : Tbl) : fCallV i T fr r m = match r[i]? with
  | some (some (.glo j)) => match T j with
    | some (n, F) => (fr r m).bind fun xs m1 => if xs.length = n then upS (F xs m1) else none
    | none => none
  | _ => none := rfl
@[simp ↓] theorem e_bm (T : String) (gm : PV → List PV → Sto → Option (PV × Sto)) : fBm T gm fo fr r m = (fo r m).bind fun x m1 => if chkT T x m1 = true then (fr r m1).bind fun xs m2 => upS (gm x xs m2) else none := rfl
@[simp] theorem e_upS (v : PV) : upS (some (v, m)) = some (.ok v, m) := rfl
@[simp ↓] theorem e_J0 (acc : List Nat) : fJ [] acc r m = some (.ok (.str acc), m) := rfl
@[simp ↓] theorem e_J (f : Fe) (fs : List Fe) (acc : List Nat) : fJ (f :: fs) acc r m = (f r m).bind fun x m1 => match x with
    | .str y => if acc.length + y.length ≤ sizeLine then fJ fs (acc ++ y) r m1 else none
    | _ => none := rfl
@[simp ↓] theorem e_prs0 : fPrs [] r m = some (.ok ([], []), m) := rfl
@[simp ↓] theorem e_prs (fk fv : Fe) (ps : List (Fe × Fe)) : fPrs ((fk, fv) :: ps) r m = (fk r m).bind fun x m1 => (fv r m1).bind fun y m2 => (fPrs ps r m2).bind fun q m3 => some (.ok (x :: q.1, y :: q.2), m3) := rfl
@[simp ↓] theorem e_dis (ps : List (Fe × Fe)) : fDisp ps r m = (fPrs ps r m).bind fun q m1 => match keysOf q.1 with
  | some ks => if ks.Nodup ∧ ks.length ≤ 15 then some (.ok (.dct q.1 q.2), m1) else none
  | none => none := rfl
/- statements -/
@[simp ↓] theorem e_sNil : sNil r m = some (.ok (.next r), m) := rfl
@[simp ↓] theorem e_seq : sSeq s t r m = (s r m).bind fun fl m1 => match fl with
  | .next r' => t r' m1
  | fl => some (.ok fl, m1) := rfl
@[simp ↓] theorem e_sIf : sIf ft s t r m = (ft r m).bind fun b m1 => if b then s r m1 else t r m1 := rfl
@[simp ↓] theorem e_ret : sRet fe r m = (fe r m).bind fun x m1 => some (.ok (.ret x), m1) := rfl
@[simp ↓] theorem e_retN : sRetN r m = some (.ok (.ret .non), m) := rfl
@[simp ↓] theorem e_drop : sDrop fe r m = (fe r m).bind fun _ m1 => some (.ok (.next r), m1) := rfl
@[simp ↓] theorem e_brk : sBrk r m = some (.ok (.brk r), m) := rfl
@[simp ↓] theorem e_cont : sCont r m = some (.ok (.cont r), m) := rfl
@[simp ↓] theorem e_never : sNever r m = none := rfl
@[simp] theorem e_put (i : Nat) : Tg.put (.nm i) x r = some (r.set i (some x)) := by simp [Tg.put]
@[simp] theorem e_putT (ts : List Tg) (xs : List PV) : Tg.put (.tp ts) (.tup xs) r = Tg.puts ts xs r := by simp [Tg.put]
@[simp] theorem e_puts0 : Tg.puts [] [] r = some r := by simp [Tg.puts]
@[simp] theorem e_puts (ts : List Tg) (xs : List PV) : Tg.puts (tg :: ts) (x :: xs) r = match tg.put x r with
    | some r' => Tg.puts ts xs r'
    | none => none := by simp only [Tg.puts] <;> (split <;> simp_all)
@[simp ↓] theorem e_asg : sAsg tg fe r m = (fe r m).bind fun x m1 => match tg.put x r with
  | some r' => some (.ok (.next r'), m1)
  | none => none := rfl
@[simp ↓] theorem e_par (is : List Nat) : sPar is fr r m = (fr r m).bind fun xs m1 => if xs.length = is.length then some (.ok (.next ((is.zip xs).foldl (fun r q => r.set q.1 (some q.2)) r)), m1) else none := rfl
@[simp ↓] theorem e_fld (c : Nat) (fld : String) : sFld c fld fo fe r m = (fe r m).bind fun x m1 => (fo r m1).bind fun o m2 => match insOf o m2 with
  | some (n, c', fs) => if c' = c ∧ fs.length < 900 then some (.ok (.next r), m2.set n (.ins c (putP fld x fs))) else none
  | none => none := rfl
@[simp ↓] theorem e_fldAug (c : Nat) (fld : String) : sFldAug c fld g fo fe r m = (fo r m).bind fun o m1 => match insOf o m1 with
  | some (_, c', fs) => if c' = c then match fs.lookup fld with
    | some x => (fe r m1).bind fun y m2 => match g x y m2 with
      | some z => match insOf o m2 with
        | some (n, c'', fs') => if c'' = c ∧ fs'.length < 900 then some (.ok (.next r), m2.set n (.ins c (putP fld z fs'))) else none
        | none => none
      | none => none
    | none => none else none
  | none => none := rfl
@[simp ↓] theorem e_aug (i : Nat) : sAug i g fe r m = match r[i]? with
  | some (some x) => (fe r m).bind fun y m1 => match g x y m1 with
    | some z => some (.ok (.next (r.set i (some z))), m1)
    | none => none
  | _ => none := rfl
@[simp ↓] theorem e_setIx : sSetIx fo fi fe r m = (fe r m).bind fun x m1 => (fo r m1).bind fun o m2 => (fi r m2).bind fun i m3 => match lstOf o m3, i with
  | some (n, xs), .int k => match ixN xs.length k with
    | some j => some (.ok (.next r), m3.set n (.lst (xs.set j x)))
    | none => none
  | _, _ => none := rfl
@[simp ↓] theorem e_augIx : sAugIx g fo fi fe r m = (fo r m).bind fun o m1 => (fi r m1).bind fun i m2 => match rdL o m2, i with
  | some xs, .int k => match atI xs k with
    | some x => (fe r m2).bind fun y m3 => match g x y m3 with
      | some z => match lstOf o m3 with
        | some (n, ys) => match ixN ys.length k with
          | some j => some (.ok (.next r), m3.set n (.lst (ys.set j z)))
          | none => none
        | none => none
      | none => none
    | none => none
  | _, _ => none := rfl
@[simp ↓] theorem e_any : iAny fe r m = (fe r m).bind fun x m1 => match srcA x m1 with
  | some s => some (.ok s, m1)
  | none => none := rfl
@[simp ↓] theorem e_rng1 : iRng1 fr r m = (fr r m).bind fun xs m1 => match xs with
  | [.int hi] => if smallR hi then some (.ok ⟨rangeP 0 hi, []⟩, m1) else none
  | _ => none := rfl
@[simp ↓] theorem e_rng2 : iRng2 fr r m = (fr r m).bind fun xs m1 => match xs with
  | [.int lo, .int hi] => if smallR lo && smallR hi then some (.ok ⟨rangeP lo hi, []⟩, m1) else none
  | _ => none := rfl
@[simp ↓] theorem e_enumA : iEnumA fr r m = (fr r m).bind fun xs m1 => match xs with
  | [x] => match srcS x m1 with
    | some s => some (.ok ⟨s.items.zipIdx.map fun q => .tup [.int q.2, q.1], s.gs⟩, m1)
    | none => none
  | _ => none := rfl
@[simp ↓] theorem e_zipL : iZipL fr r m = (fr r m).bind fun xs m1 => match xs with
  | [.tup a, .tup b] => some (.ok ⟨(a.zip b).map fun q => .tup [q.1, q.2], []⟩, m1)
  | [x, y] => match srcQ x m1, srcQ y m1 with
    | some s, some t => some (.ok ⟨(s.items.zip t.items).map fun q => .tup [q.1, q.2], s.gs ++ t.gs⟩, m1)
    | _, _ => none
  | _ => none := rfl
@[simp ↓] theorem e_for {fi : Fi} : sFor fi tg s r m = (fi r m).bind fun src m1 => loopF src tg s src.items r m1 := rfl
@[simp ↓] theorem e_lcomp {fi : Fi} (vs : List Nat) : lComp fi tg ft fe vs r m = (fi r m).bind fun src m1 => loopC src tg ft fe vs r src.items m1 [] := rfl
@[simp ↓] theorem e_yes : fYes r m = some (.ok true, m) := rfl
@[simp] theorem e_nox (x : α) : nox (some (Out.ok x, m)) = some (.ok x, m) := rfl
end
/-! instances, lists of the store -/
@[simp] theorem e_insOf (n : Nat) (m : Sto) : insOf (.ref n) m = match m[n]? with
    | some (.ins c fs) => some (n, c, fs)
    | _ => none := rfl
@[simp] theorem e_lstOf (n : Nat) (m : Sto) : lstOf (.ref n) m = match m[n]? with
    | some (.lst xs) => some (n, xs)
    | _ => none := rfl
@[simp] theorem e_rdL1 (xs : List PV) (m : Sto) : rdL (.lst xs) m = some xs := rfl
@[simp] theorem e_rdL2 (n : Nat) (m : Sto) : rdL (.ref n) m = match m[n]? with
    | some (.lst xs) => some xs
    | _ => none := rfl
@[simp] theorem e_rdQ1 (xs : List PV) (m : Sto) : rdQ (.lst xs) m = some xs := rfl
@[simp] theorem e_rdQ2 (n : Nat) (m : Sto) : rdQ (.ref n) m = match m[n]? with
    | some (.lst xs) => some xs
    | some (.rol xs) => some xs
    | _ => none := rfl
@[simp] theorem e_rdS0 (xs : List PV) (m : Sto) : rdS (.tup xs) m = some xs := rfl
@[simp] theorem e_rdS1 (xs : List PV) (m : Sto) : rdS (.lst xs) m = some xs := rfl
@[simp] theorem e_rdS2 (n : Nat) (m : Sto) : rdS (.ref n) m = match m[n]? with
    | some (.lst xs) => some xs
    | some (.rol xs) => some xs
    | _ => none := rfl
@[simp] theorem e_fl (c : Nat) (k : String) (x : PV) (m : Sto) : vFl c k x m = match insOf x m with
  | some (_, c', fs) => if c' = c then fs.lookup k else none
  | none => none := rfl
theorem loopW_0 (ft : Ft) (body : Fs) (r : Env) (m : Sto) : loopW ft body 0 r m = none := rfl
theorem loopW_e (ft : Ft) (body : Fs) (n : Nat) (r : Env) (m : Sto) : loopW ft body (n + 1) r m = (ft r m).bind fun b m1 => if b then (body r m1).bind fun fl m2 => match fl with
      | .next r2 => loopW ft body n r2 m2
      | .cont r2 => loopW ft body n r2 m2
      | .brk r2 => some (.ok (.next r2), m2)
      | .ret v => some (.ok (.ret v), m2)
    else some (.ok (.next r), m1) := rfl
theorem ok_nil {xs : List PV} {m : Sto} : Src.ok ⟨xs, []⟩ m := fun g hg => nomatch hg
theorem loopF_0 {src : Src} {tg : Tg} {body : Fs} {r : Env} {m : Sto} (h : src.ok m) : loopF src tg body [] r m = some (.ok (.next r), m) := by
  unfold loopF; rw [if_pos h]
theorem loopF_e {src : Src} {tg : Tg} {body : Fs} {r : Env} {m : Sto} {x : PV} {xs : List PV} (h : src.ok m) : loopF src tg body (x :: xs) r m = match tg.put x r with
    | some r1 => (body r1 m).bind fun fl m1 => match fl with
      | .next r2 => loopF src tg body xs r2 m1
      | .cont r2 => loopF src tg body xs r2 m1
      | .brk r2 => some (.ok (.next r2), m1)
      | .ret v => some (.ok (.ret v), m1)
    | none => none := by
  rw [loopF, if_pos h] <;> rfl
theorem loopC_0 {src : Src} {tg : Tg} {ft : Ft} {fe : Fe} {vs : List Nat} {r : Env} {m : Sto} {acc : List PV} (h : src.ok m) : loopC src tg ft fe vs r [] m acc = some (.ok acc, m) := by
  unfold loopC; rw [if_pos h]
theorem loopC_e {src : Src} {tg : Tg} {ft : Ft} {fe : Fe} {vs : List Nat} {r : Env} {m : Sto} {acc : List PV} {x : PV} {xs : List PV} (h : src.ok m) : loopC src tg ft fe vs r (x :: xs) m acc = match tg.put x (wipeE r vs) with
    | some r1 => (nox (ft r1 m)).bind fun b m1 => if b then (nox (fe r1 m1)).bind fun y m2 => if acc.length < sizeLine then loopC src tg ft fe vs r xs m2 (acc ++ [y]) else none
      else loopC src tg ft fe vs r xs m1 acc
    | none => none := by
  rw [loopC, if_pos h] <;> rfl
/-- a comprehension that leaves the store, no condition -/
theorem loopC_map {src : Src} {tg : Tg} {fe : Fe} {vs : List Nat} {r : Env} {m : Sto} (ok : src.ok m) (f : PV → PV) : ∀ (xs acc : List PV), acc.length + xs.length ≤ sizeLine → (∀ x ∈ xs, ∃ r1, tg.put x (wipeE r vs) = some r1 ∧ fe r1 m = some (.ok (f x), m)) →
    loopC src tg fYes fe vs r xs m acc = some (.ok (acc ++ xs.map f), m)
  | [], acc, _, _ => by rw [loopC_0 ok]; simp
  | x :: xs, acc, hl, h => by
    obtain ⟨r1, h1, h2⟩ := h x (by simp)
    rw [loopC_e ok, h1]
    have h2' : nox (fe r1 m) = some (.ok (f x), m) := by rw [h2]; rfl
    simp only [List.length_cons] at hl
    simp only [e_yes, e_nox, Res.bind, if_true, h2']
    rw [if_pos (by omega), loopC_map ok f xs (acc ++ [f x]) (by simp; omega) fun y hy => h y (by simp [hy])]
    simp
/-- .. with a condition -/
theorem loopC_filter {src : Src} {tg : Tg} {ft : Ft} {fe : Fe} {vs : List Nat} {r : Env} {m : Sto} (ok : src.ok m) (c : PV → Bool) (f : PV → PV) : ∀ (xs acc : List PV), acc.length + xs.length ≤ sizeLine →
    (∀ x ∈ xs, ∃ r1, tg.put x (wipeE r vs) = some r1 ∧ ft r1 m = some (.ok (c x), m) ∧ (c x = true → fe r1 m = some (.ok (f x), m))) →
    loopC src tg ft fe vs r xs m acc = some (.ok (acc ++ (xs.filter c).map f), m)
  | [], acc, _, _ => by rw [loopC_0 ok]; simp
  | x :: xs, acc, hl, h => by
    obtain ⟨r1, h1, h3, h2⟩ := h x (by simp)
    rw [loopC_e ok, h1]
    have h3' : nox (ft r1 m) = some (.ok (c x), m) := by rw [h3]; rfl
    simp only [List.length_cons] at hl
    simp only [e_nox, Res.bind, h3']
    by_cases hc : c x = true
    · have h2' : nox (fe r1 m) = some (.ok (f x), m) := by rw [h2 hc]; rfl
      rw [if_pos hc, h2']
      simp only []
      rw [if_pos (by omega), loopC_filter ok c f xs (acc ++ [f x]) (by simp; omega) fun y hy => h y (by simp [hy])]
      simp [hc]
    · rw [if_neg hc, loopC_filter ok c f xs acc (by omega) fun y hy => h y (by simp [hy])]
      simp [hc]
theorem frz_d (n : Nat) (m : Sto) : frz n m deepest = frz n m (49 + 1) := rfl
@[simp] theorem frz_non (n : Nat) (m : Sto) (k : Nat) : frz n m k .non = some .non := by cases k <;> simp [frz]
@[simp] theorem frz_bl (n : Nat) (m : Sto) (k : Nat) (b : Bool) : frz n m k (.bl b) = some (.bl b) := by cases k <;> simp [frz]
@[simp] theorem frz_int (n : Nat) (m : Sto) (k : Nat) (b : Int) : frz n m k (.int b) = some (.int b) := by cases k <;> simp [frz]
@[simp] theorem frz_str (n : Nat) (m : Sto) (k : Nat) (b : List Nat) : frz n m k (.str b) = some (.str b) := by cases k <;> simp [frz]
@[simp] theorem frz_glo (n : Nat) (m : Sto) (k : Nat) (b : Nat) : frz n m k (.glo b) = some (.glo b) := by cases k <;> simp [frz]
@[simp] theorem frz_ty (n : Nat) (m : Sto) (k : Nat) (b : String) : frz n m k (.ty b) = some (.ty b) := by cases k <;> simp [frz]
/-! values without objects -/
mutual
def pure? : Nat → PV → Bool
  | _, .non => true
  | _, .bl _ => true
  | _, .int _ => true
  | _, .str _ => true
  | _, .glo _ => true
  | _, .ty _ => true
  | 0, _ => false
  | k + 1, .tup xs => pures? k xs
  | k + 1, .lst xs => pures? k xs
  | k + 1, .dct _ xs => pures? k xs
  | _ + 1, .ref _ => false
def pures? : Nat → List PV → Bool
  | _, [] => true
  | k, x :: xs => pure? k x && pures? k xs
end
mutual
theorem frz_pure (n : Nat) (m : Sto) : ∀ (k : Nat) (x : PV), pure? k x = true → frz n m k x = some x
  | k, .non, _ => by simp
  | k, .bl b, _ => by simp
  | k, .int b, _ => by simp
  | k, .str b, _ => by simp
  | k, .glo b, _ => by simp
  | k, .ty b, _ => by simp
  | 0, .tup xs, h => by simp [pure?] at h
  | 0, .lst xs, h => by simp [pure?] at h
  | 0, .dct ks xs, h => by simp [pure?] at h
  | 0, .ref xs, h => by simp [pure?] at h
  | k + 1, .tup xs, h => by simp only [pure?] at h; simp [frz, frzs_pure n m k xs h]
  | k + 1, .lst xs, h => by simp only [pure?] at h; simp [frz, frzs_pure n m k xs h]
  | k + 1, .dct ks xs, h => by simp only [pure?] at h; simp [frz, frzs_pure n m k xs h]
  | k + 1, .ref xs, h => by simp [pure?] at h
theorem frzs_pure (n : Nat) (m : Sto) : ∀ (k : Nat) (xs : List PV), pures? k xs = true → frzs n m k xs = some xs
  | k, [], _ => by simp [frzs]
  | k, x :: xs, h => by
    simp only [pures?, Bool.and_eq_true] at h
    simp [frzs, frz_pure n m k x h.1, frzs_pure n m k xs h.2]
end
/-- the store as it was -/
theorem Cmp.refl (m : Sto) (n : Nat) (h : m.length ≤ n) : Cmp m m n := ⟨h, fun _ _ _ h => .inl h⟩
/-- a body that returns a value and leaves the store -/
theorem Sim.pure {N n : Nat} {b : Fs} {F : Fn} (h : ∀ xs m x m2, xs.length = n → F xs m = some (x, m2) → m2 = m ∧ b (startE N xs) m = some (.ok (.ret x), m) ∧ pure? deepest x = true) : Sim N n b F := fun xs m x m2 hl hF => by
  obtain ⟨rfl, h2, h3⟩ := h xs m x m2 hl hF
  exact ⟨_, _, x, m2.length, h2, .inl rfl, by simp, .refl _ _ (Nat.le_refl _), frz_pure _ _ _ _ h3⟩
end Mini
namespace Mini
open PySem L2
@[simp] theorem sIx_nat (n d k : Nat) : HT.sIx n d (some (k : Int)) = min k n := HT.sIx_nat n d k
@[simp] theorem sIx_none (n d : Nat) : HT.sIx n d none = d := rfl
theorem cutL_nat {α : Type} (xs : List α) (a b : Nat) : cutL xs (some (a : Int)) (some (b : Int)) = (xs.drop a).take (b - a) := by
  unfold cutL
  rw [sIx_nat, sIx_nat]
  by_cases h : a ≤ xs.length
  · rw [Nat.min_eq_left h]
    by_cases h2 : b ≤ xs.length
    · rw [Nat.min_eq_left h2]
    · rw [Nat.min_eq_right (by omega), List.take_of_length_le (by simp), List.take_of_length_le (by simp; omega)]
  · rw [Nat.min_eq_right (a := a) (by omega), List.drop_length, List.drop_eq_nil_of_le (by omega)]
    simp
theorem cutL_to {α : Type} (xs : List α) (b : Nat) : cutL xs none (some (b : Int)) = xs.take b := by
  unfold cutL
  rw [sIx_nat, sIx_none]
  by_cases h2 : b ≤ xs.length
  · rw [Nat.min_eq_left h2]; simp
  · rw [Nat.min_eq_right (by omega), List.take_of_length_le (by simp), List.take_of_length_le (by omega)]; simp
theorem cutL_from {α : Type} (xs : List α) (a : Nat) : cutL xs (some (a : Int)) none = xs.drop a := by
  unfold cutL
  rw [sIx_nat, sIx_none]
  by_cases h : a ≤ xs.length
  · rw [Nat.min_eq_left h, List.take_of_length_le (by simp)]
  · rw [Nat.min_eq_right (a := a) (by omega), List.drop_length, List.drop_eq_nil_of_le (by omega)]
    simp
theorem at_nat {α : Type} (xs : List α) (a : Nat) : atI xs (a : Int) = xs[a]? := by
  unfold atI ixN
  rw [if_pos (by omega)]
  by_cases h : a < xs.length
  · rw [if_pos (by omega)]; simp
  · rw [if_neg (by omega)]; simp; omega
/-- what vIn says of one sign -/
@[simp] theorem in_sign (c : Nat) (z : List Nat) (m : Sto) : vIn (.str [c]) (.str z) m = some (.bl (decide (c ∈ z))) := by simp [vIn, vInB]
@[simp] theorem notIn_sign (c : Nat) (z : List Nat) (m : Sto) : vNotIn (.str [c]) (.str z) m = some (.bl (!decide (c ∈ z))) := by simp [vNotIn, vInB]
theorem mkS_beq (a b : List Nat) : (mkS a == mkS b) = decide (a = b) := by
  by_cases h : a = b
  · subst h; simp
  · rw [decide_eq_false h]
    exact beq_eq_false_iff_ne.mpr fun e => h (mkS_inj e)
@[simp] theorem toD_str (m : Sto) (k : Nat) (a : List Nat) : toD m k (.str a) = some (.str (mkS a)) := by cases k <;> simp [toD]
@[simp] theorem toD_int (m : Sto) (k : Nat) (a : Int) : toD m k (.int a) = some (.int a) := by cases k <;> simp [toD]
@[simp] theorem toD_bl (m : Sto) (k : Nat) (a : Bool) : toD m k (.bl a) = some (.bool a) := by cases k <;> simp [toD]
@[simp] theorem toD_non (m : Sto) (k : Nat) : toD m k .non = some .none := by cases k <;> simp [toD]
theorem eqv_str (a b : Str) : PyData.eqv (.str a) (.str b) = (a == b) := by simp [PyData.eqv]
@[simp] theorem eq_str (a b : List Nat) (m : Sto) : vEq (.str a) (.str b) m = some (.bl (decide (a = b))) := by simp [vEq, vEqB, toD_str, eqv_str, mkS_beq]
@[simp] theorem ne_str (a b : List Nat) (m : Sto) : vNe (.str a) (.str b) m = some (.bl (!decide (a = b))) := by simp [vNe, vEqB, toD_str, eqv_str, mkS_beq]
theorem eqv_int (a b : Int) : PyData.eqv (.int a) (.int b) = decide (a = b) := by simp [PyData.eqv]; rfl
@[simp] theorem eq_int (a b : Int) (m : Sto) : vEq (.int a) (.int b) m = some (.bl (decide (a = b))) := by simp [vEq, vEqB, toD_int, eqv_int]
@[simp] theorem ne_int (a b : Int) (m : Sto) : vNe (.int a) (.int b) m = some (.bl (!decide (a = b))) := by simp [vNe, vEqB, toD_int, eqv_int]
theorem toDs_strs (m : Sto) (k : Nat) : ∀ zs : List (List Nat), toDs m k (zs.map PV.str) = some (zs.map fun z => .str (mkS z))
  | [] => by simp [toDs]
  | z :: zs => by simp [toDs, toD_str, toDs_strs m k zs]
theorem any_strs (z : List Nat) : ∀ zs : List (List Nat), (zs.map fun y => PyData.str (mkS y)).any (fun y => PyData.eqv y (.str (mkS z))) = decide (z ∈ zs)
  | [] => by simp
  | y :: zs => by
    simp only [List.map_cons, List.any_cons, any_strs z zs, eqv_str, mkS_beq, List.mem_cons, Bool.decide_or]
    congr 1
    simp [eq_comm]
@[simp] theorem in_strs (z : List Nat) (zs : List (List Nat)) (m : Sto) : vIn (.str z) (.tup (zs.map PV.str)) m = some (.bl (decide (z ∈ zs))) := by
  unfold vIn vInB
  simp only [toD_str]
  rw [show deepest = 49 + 1 from rfl]
  simp only [toD, toDs_strs, Option.map_some, any_strs]
  simp
@[simp] theorem notIn_strs (z : List Nat) (zs : List (List Nat)) (m : Sto) : vNotIn (.str z) (.tup (zs.map PV.str)) m = some (.bl (!decide (z ∈ zs))) := by
  unfold vNotIn vInB
  simp only [toD_str]
  rw [show deepest = 49 + 1 from rfl]
  simp only [toD, toDs_strs, Option.map_some, any_strs]
  simp
theorem takeWhile_at {α : Type} (p : α → Bool) (xs : List α) (k : Nat) (c : α) (hk : k = (xs.takeWhile p).length) (hc : xs[k]? = some c) : p c = false := by
  induction xs generalizing k with
  | nil => simp at hc
  | cons x xs ih =>
    rw [List.takeWhile_cons] at hk
    split at hk
    · subst hk
      simp only [List.length_cons, List.getElem?_cons_succ] at hc
      exact ih _ rfl hc
    · subst hk
      simp at hc
      subst hc
      rename_i h
      simpa using h
@[simp] theorem v_lt (i j : Int) (m : Sto) : vLt (.int i) (.int j) m = some (.bl (decide (i < j))) := rfl
@[simp] theorem v_le (i j : Int) (m : Sto) : vLe (.int i) (.int j) m = some (.bl (decide (i ≤ j))) := rfl
@[simp] theorem v_gt (i j : Int) (m : Sto) : vGt (.int i) (.int j) m = some (.bl (decide (i > j))) := rfl
@[simp] theorem v_ge (i j : Int) (m : Sto) : vGe (.int i) (.int j) m = some (.bl (decide (i ≥ j))) := rfl
@[simp] theorem v_add (i j : Int) (m : Sto) : vAdd (.int i) (.int j) m = some (.int (i + j)) := rfl
@[simp] theorem v_addI (i j : Int) (m : Sto) : vAddI (.int i) (.int j) m = some (.int (i + j)) := rfl
@[simp] theorem v_sub (i j : Int) (m : Sto) : vSub (.int i) (.int j) m = some (.int (i - j)) := rfl
@[simp] theorem v_mul (i j : Int) (m : Sto) : vMul (.int i) (.int j) m = if cMul i j = true then some (.int (i * j)) else none := rfl
@[simp] theorem v_mod (i j : Int) (m : Sto) : vMod (.int i) (.int j) m = if 0 < j then some (.int (i % j)) else none := by unfold vMod vI2; simp
@[simp] theorem v_div (i j : Int) (m : Sto) : vDiv (.int i) (.int j) m = if 0 < j ∧ j < 1073741824 then some (.int (i / j)) else none := by unfold vDiv vI2; simp
@[simp] theorem v_pow (i j : Int) (m : Sto) : vPow (.int i) (.int j) m = if (0 ≤ j ∧ j ≤ 1000000) ∧ i.natAbs < 2 ^ 64 then some (.int (i ^ j.toNat)) else none := by unfold vPow vI2; simp
@[simp] theorem v_neg (i : Int) (m : Sto) : vNeg (.int i) m = some (.int (-i)) := rfl
@[simp] theorem v_addS (a b : List Nat) (m : Sto) : vAdd (.str a) (.str b) m = if a.length + b.length ≤ sizeLine then some (.str (a ++ b)) else none := rfl
@[simp] theorem v_addT (a b : List PV) (m : Sto) : vAdd (.tup a) (.tup b) m = if a.length + b.length ≤ sizeLine then some (.tup (a ++ b)) else none := rfl
@[simp] theorem v_addL (a b : List PV) (m : Sto) : vAdd (.lst a) (.lst b) m = if a.length + b.length ≤ sizeLine then some (.lst (a ++ b)) else none := rfl
@[simp] theorem v_addRL (n : Nat) (b : List PV) (m : Sto) : vAdd (.ref n) (.lst b) m = match m[n]? with | some (.lst a) => if a.length + b.length ≤ sizeLine then some (.lst (a ++ b)) else none | _ => none := by
  simp only [vAdd, rdL]
  generalize m[n]? = o
  cases o with
  | none => rfl
  | some o => cases o <;> rfl
@[simp] theorem v_ixS (z : List Nat) (i : Int) (m : Sto) : vIx (.str z) (.int i) m = if z.length ≤ sizeLine then match atI z i with | some c => some (.str [c]) | none => none else none := rfl
@[simp] theorem v_ixT (xs : List PV) (i : Int) (m : Sto) : vIx (.tup xs) (.int i) m = atI xs i := rfl
@[simp] theorem v_ixL (xs : List PV) (i : Int) (m : Sto) : vIx (.lst xs) (.int i) m = atI xs i := rfl
@[simp] theorem v_ixR (n : Nat) (i : Int) (m : Sto) : vIx (.ref n) (.int i) m = match m[n]? with | some (.lst xs) => atI xs i | some (.rol xs) => atI xs i | _ => none := by
  simp only [vIx, rdS, rdQ]
  generalize m[n]? = o
  cases o with
  | none => rfl
  | some o => cases o <;> rfl
@[simp] theorem v_lenS (z : List Nat) (m : Sto) : vLen [.str z] m = if z.length ≤ sizeLine then some (.int z.length) else none := rfl
@[simp] theorem v_lenT (xs : List PV) (m : Sto) : vLen [.tup xs] m = some (.int xs.length) := rfl
@[simp] theorem v_lenL (xs : List PV) (m : Sto) : vLen [.lst xs] m = some (.int xs.length) := rfl
@[simp] theorem v_lenR (n : Nat) (m : Sto) : vLen [.ref n] m = match m[n]? with | some (.lst xs) => some (.int xs.length) | some (.rol xs) => some (.int xs.length) | _ => none := by
  simp only [vLen, rdS, rdQ]
  generalize m[n]? = o
  cases o with
  | none => rfl
  | some o => cases o <;> rfl
@[simp] theorem v_slS (z : List Nat) (lo hi : Option Int) (m : Sto) : vSl (.str z) lo hi m = if z.length ≤ sizeLine then some (.str (cutL z lo hi)) else none := rfl
@[simp] theorem v_slT (xs : List PV) (lo hi : Option Int) (m : Sto) : vSl (.tup xs) lo hi m = some (.tup (cutL xs lo hi)) := rfl
@[simp] theorem v_slL (xs : List PV) (lo hi : Option Int) (m : Sto) : vSl (.lst xs) lo hi m = some (.lst (cutL xs lo hi)) := rfl
@[simp] theorem v_slR (n : Nat) (lo hi : Option Int) (m : Sto) : vSl (.ref n) lo hi m = match m[n]? with | some (.lst xs) => some (.lst (cutL xs lo hi)) | some (.rol xs) => some (.lst (cutL xs lo hi)) | _ => none := by
  simp only [vSl, rdQ]
  generalize m[n]? = o
  cases o with
  | none => rfl
  | some o => cases o <;> rfl
@[simp] theorem v_abs (i : Int) (m : Sto) : vAbs [.int i] m = some (.int (if i < 0 then -i else i)) := rfl
@[simp] theorem v_max (i j : Int) (m : Sto) : vMax [.int i, .int j] m = some (.int (if j > i then j else i)) := rfl
@[simp] theorem v_min (i j : Int) (m : Sto) : vMin [.int i, .int j] m = some (.int (if j < i then j else i)) := rfl
@[simp] theorem v_int (i : Int) (m : Sto) : vInt [.int i] m = some (.int i) := rfl
@[simp] theorem v_str (i : Int) (m : Sto) : vStr [.int i] m = if i.natAbs.log2 < 1920 then some (.str (figs i)) else none := rfl
@[simp] theorem v_fmtS (z : List Nat) (m : Sto) : vFmt (.str z) m = if z.length ≤ sizeLine then some (.str z) else none := rfl
@[simp] theorem v_fmtI (i : Int) (m : Sto) : vFmt (.int i) m = if i.natAbs.log2 < 1920 then some (.str (figs i)) else none := rfl
@[simp] theorem v_tupT (xs : List PV) (m : Sto) : vTuple [.tup xs] m = some (.tup xs) := rfl
@[simp] theorem v_tupL (xs : List PV) (m : Sto) : vTuple [.lst xs] m = some (.tup xs) := rfl
@[simp] theorem v_tupR (n : Nat) (m : Sto) : vTuple [.ref n] m = match m[n]? with | some (.lst xs) => some (.tup xs) | some (.rol xs) => some (.tup xs) | _ => none := by
  simp only [vTuple, rdS, rdQ]
  generalize m[n]? = o
  cases o with
  | none => rfl
  | some o => cases o <;> rfl
@[simp] theorem v_listR (n : Nat) (m : Sto) : vList [.ref n] m = match m[n]? with | some (.lst xs) => some (.lst xs) | some (.rol xs) => some (.lst xs) | _ => none := by
  simp only [vList, rdS, rdQ]
  generalize m[n]? = o
  cases o with
  | none => rfl
  | some o => cases o <;> rfl
@[simp] theorem v_listT (xs : List PV) (m : Sto) : vList [.tup xs] m = some (.lst xs) := rfl
@[simp] theorem v_listL (xs : List PV) (m : Sto) : vList [.lst xs] m = some (.lst xs) := rfl
theorem blsOf_map {α : Type} (f : α → Bool) : ∀ xs : List α, blsOf (xs.map fun x => PV.bl (f x)) = some (xs.map f)
  | [] => rfl
  | x :: xs => by simp [blsOf, blsOf_map f xs]
theorem v_all {α : Type} (f : α → Bool) (xs : List α) (m : Sto) : vAll [.lst (xs.map fun x => PV.bl (f x))] m = some (.bl (xs.all f)) := by
  simp [vAll, blsOf_map, List.all_map]
theorem v_any {α : Type} (f : α → Bool) (xs : List α) (m : Sto) : vAny [.lst (xs.map fun x => PV.bl (f x))] m = some (.bl (xs.any f)) := by
  simp [vAny, blsOf_map, List.any_map]
theorem v_append (n : Nat) (xs : List PV) (y : PV) (m : Sto) (h : m[n]? = some (.lst xs)) (hl : xs.length < sizeLine) : vAppend (.ref n) [y] m = some (.non, m.set n (.lst (xs ++ [y]))) := by
  simp [vAppend, h, hl]
theorem strsOf_map : ∀ zs : List (List Nat), strsOf (zs.map PV.str) = some zs
  | [] => rfl
  | z :: zs => by simp [strsOf, strsOf_map zs]
@[simp] theorem srcA_S (z : List Nat) (m : Sto) : srcA (.str z) m = some ⟨z.map fun c => .str [c], []⟩ := rfl
@[simp] theorem srcA_T (xs : List PV) (m : Sto) : srcA (.tup xs) m = some ⟨xs, []⟩ := rfl
@[simp] theorem srcA_L (xs : List PV) (m : Sto) : srcA (.lst xs) m = some ⟨xs, []⟩ := rfl
@[simp] theorem srcS_T (xs : List PV) (m : Sto) : srcS (.tup xs) m = some ⟨xs, []⟩ := rfl
@[simp] theorem srcS_L (xs : List PV) (m : Sto) : srcS (.lst xs) m = some ⟨xs, []⟩ := rfl
@[simp] theorem srcA_R (n : Nat) (m : Sto) : srcA (.ref n) m = match rdQ (.ref n) m with
    | some xs => some ⟨xs, [(n, xs)]⟩
    | none => none := rfl
theorem ok_one {n : Nat} {xs ys : List PV} {m : Sto} (h : rdQ (.ref n) m = some xs) : Src.ok ⟨ys, [(n, xs)]⟩ m := fun g hg => by
  rw [List.mem_singleton.mp hg]; exact h
end Mini
namespace Mini
open PySem L2
/-- times: a sign many times, too -/
def vMulA : PV → PV → Sto → Option PV
  | .str z, .int i, _ => match z with
    | [c] => if 0 ≤ i ∧ i ≤ 1048576 then some (.str (List.replicate i.toNat c)) else none
    | _ => none
  | x, y, m => vMul x y m
def rMulS : R2 := fun x y H Q => ∃ c i, x = .str (mkS [c]) ∧ y = .int i ∧ 0 ≤ i ∧ i ≤ 1048576 ∧ Q (.str (mkS (List.replicate i.toNat c))) H
theorem op_mulS {X : Cx} : OpR X (binaryOp .Mult) rMulS := by
  intro pins s σ H x y v u Q I rx ry ⟨c, i, e1, e2, h0, h1, q⟩
  subst e1 e2
  obtain ⟨t, rfl⟩ := rx
  obtain ⟨t', rfl⟩ := ry
  refine PySem.W.KXi.mul (x := mkS [c]) (n := 1) (by rfl) (by decide) (by omega) (by omega) fun t' k _ _ => ?_
  have e : Txt.mul (mkS [c]) i = mkS (List.replicate i.toNat c) := by
    have := PyProof.Rows.mul_one_list c i
    have e2 : mkS (Txt.mul (mkS [c]) i).cps.toList = mkS (List.replicate i.toNat c) := congrArg mkS this
    rwa [mkS_of] at e2
  rw [e]
  exact ⟨.str _, H, I.tok _, ⟨_, rfl⟩, q⟩
theorem ov_mulA {p : Par} {X : Cx} : OpR X (binaryOp .Mult) (rV2 p vMulA) := by
  refine OpR_weak (OpR.or op_mulS (ov_mul (p := p))) fun v w H Q ⟨io, m, x, y, rm, rx, ry, h⟩ => ?_
  unfold vMulA at h
  split at h
  · split at h
    · split at h
      · rename_i hc
        simp only [RV] at rx ry
        exact .inl ⟨_, _, rx, ry, hc.1, hc.2, h.same rm (by simp [RV])⟩
      · exact h.elim
    · exact h.elim
  · exact .inr ⟨io, m, _, _, rm, rx, ry, h⟩
@[simp] theorem v_mulA (i j : Int) (m : Sto) : vMulA (.int i) (.int j) m = if cMul i j = true then some (.int (i * j)) else none := rfl
@[simp] theorem v_mulS (c : Nat) (i : Int) (m : Sto) : vMulA (.str [c]) (.int i) m = if 0 ≤ i ∧ i ≤ 1048576 then some (.str (List.replicate i.toNat c)) else none := rfl
theorem loopC_e' {ys : List PV} {tg : Tg} {ft : Ft} {fe : Fe} {vs : List Nat} {r : Env} {m : Sto} {acc : List PV} {x : PV} {xs : List PV} : loopC ⟨ys, []⟩ tg ft fe vs r (x :: xs) m acc = match tg.put x (wipeE r vs) with
    | some r1 => (nox (ft r1 m)).bind fun b m1 => if b then (nox (fe r1 m1)).bind fun y m2 => if acc.length < sizeLine then loopC ⟨ys, []⟩ tg ft fe vs r xs m2 (acc ++ [y]) else none
      else loopC ⟨ys, []⟩ tg ft fe vs r xs m1 acc
    | none => none := loopC_e ok_nil
theorem loopC_0' {ys : List PV} {tg : Tg} {ft : Ft} {fe : Fe} {vs : List Nat} {r : Env} {m : Sto} {acc : List PV} : loopC ⟨ys, []⟩ tg ft fe vs r [] m acc = some (.ok acc, m) := loopC_0 ok_nil
theorem app_get (m z : Sto) (i : Nat) : (m ++ z)[m.length + i]? = z[i]? := by
  rw [List.getElem?_append_right (by omega), Nat.add_sub_cancel_left]
theorem app_get0 (m z : Sto) : (m ++ z)[m.length]? = z[0]? := app_get m z 0
theorem app_set (m z : Sto) (i : Nat) (o : Ob) : (m ++ z).set (m.length + i) o = m ++ z.set i o := by
  rw [List.set_append_right _ _ (by omega), Nat.add_sub_cancel_left]
theorem app_set0 (m z : Sto) (o : Ob) : (m ++ z).set m.length o = m ++ z.set 0 o := app_set m z 0 o
end Mini
namespace K29
open PySem L2 Mini
def LET : List Nat := List.range' 97 26
def DIG : List Nat := List.range' 48 10
def RES : List (List Nat) := [[97, 116], [98, 105, 110], [99, 97, 114, 114, 121], [99, 101, 108, 108, 115], [99, 117, 116, 115], [100, 97, 121], [100, 111], [101, 110, 100], [106, 111, 98], [108, 97, 115, 116], [111, 110], [114, 105, 110, 103], [116, 111]]
def c_LETTERS : PV := .str LET
def c_DIGITS : PV := .str DIG
def c_MARKS : PV := .str [97, 98, 99]
def c_MOST_SIGNS : PV := .int 8
def c_LEAST_CELLS : PV := .int 2
def c_MOST_CELLS : PV := .int 12
def c_MOST_CUTS : PV := .int 4
def c_RESERVED : PV := .tup (RES.map PV.str)
def c_HEADS : PV := .tup [.glo 3, .glo 7, .glo 8]
def sR : List Nat := [114, 105, 110, 103]
def sJ : List Nat := [106, 111, 98]
def sD : List Nat := [100, 97, 121]
def vd_SORTS : PV → Sto → Option PV := fun x _ => match x with
  | .str z => if z = sR then some (.int 0) else if z = sJ then some (.int 1) else if z = sD then some (.int 2) else none
  | _ => none
def isL (c : Nat) : Bool := decide (c ∈ LET)
def isD (c : Nat) : Bool := decide (c ∈ DIG)
def isAN (c : Nat) : Bool := isL c || isD c
/-- the longest text of a scan -/
def cap : Nat := 600
/-! ### scans -/
def scO (t : List Nat) (a : Nat) (g : Bool) : Ob := .ins 1 [("text", .str t), ("at", .int (a : Nat)), ("good", .bl g)]
def scOf (m : Sto) (x : PV) : Option (Nat × List Nat × Nat × Bool) := match x with
  | .ref s => match m[s]? with
    | some (.ins c [(k1, .str t), (k2, .int a), (k3, .bl g)]) => if c = 1 ∧ k1 = "text" ∧ k2 = "at" ∧ k3 = "good" ∧ 0 ≤ a ∧ t.length ≤ cap then some (s, t, a.toNat, g) else none
    | _ => none
  | _ => none
theorem scOf_is {m : Sto} {x : PV} {s : Nat} {t : List Nat} {a : Nat} {g : Bool} (h : scOf m x = some (s, t, a, g)) : x = .ref s ∧ m[s]? = some (scO t a g) ∧ t.length ≤ cap := by
  unfold scOf at h
  split at h
  · split at h
    · split at h
      · rename_i hm hc
        obtain ⟨rfl, rfl, rfl, rfl, h0, hl⟩ := hc
        simp only [Option.some.injEq, Prod.mk.injEq] at h
        obtain ⟨rfl, rfl, rfl, rfl⟩ := h
        refine ⟨rfl, ?_, hl⟩
        rw [hm]
        unfold scO
        rw [Int.toNat_of_nonneg h0]
      · cases h
    · cases h
  · cases h
theorem scOf_mk {m : Sto} {s : Nat} {t : List Nat} {a : Nat} {g : Bool} (h : m[s]? = some (scO t a g)) (hl : t.length ≤ cap) : scOf m (.ref s) = some (s, t, a, g) := by
  unfold scOf scO at *
  simp [h, hl]
abbrev SF := List Nat → Nat → Bool → List PV → Option (PV × Nat × Bool)
def scanF (f : SF) : Fn := fun xs m => match xs with
  | x :: ys => match scOf m x with
    | some (s, t, a, g) => match f t a g ys with
      | some (v, a', g') => some (v, m.set s (scO t a' g'))
      | none => none
    | none => none
  | [] => none
theorem scanF_run {f : SF} {m : Sto} {s : Nat} {t : List Nat} {a a' : Nat} {g g' : Bool} {ys : List PV} {v : PV} (h : m[s]? = some (scO t a g)) (hl : t.length ≤ cap) (hf : f t a g ys = some (v, a', g')) : scanF f (.ref s :: ys) m = some (v, m.set s (scO t a' g')) := by
  unfold scanF
  simp [scOf_mk h hl, hf]
/-- .. that is only read -/
def readF (f : List Nat → Nat → Bool → PV) : Fn := fun xs m => match xs with
  | [x] => match scOf m x with
    | some (s, t, a, g) => some (f t a g, m)
    | none => none
  | _ => none
theorem readF_run {f : List Nat → Nat → Bool → PV} {m : Sto} {s : Nat} {t : List Nat} {a : Nat} {g : Bool} (h : m[s]? = some (scO t a g)) (hl : t.length ≤ cap) : readF f [.ref s] m = some (f t a g, m) := by
  unfold readF
  simp [scOf_mk h hl]
theorem set_cmp {m : Sto} {s : Nat} {o : Ob} {k : Nat} (hk : m.length ≤ k) (h : obBelow k o = true) : Cmp m (m.set s o) k := ⟨hk, fun i o' hi e => by
  by_cases hs : s = i
  · subst hs
    by_cases hl : s < m.length
    · rw [List.getElem?_set_self hl] at e
      cases e
      exact .inr h
    · rw [List.getElem?_eq_none (by simpa using hl)] at e; cases e
  · rw [List.getElem?_set_ne hs] at e
    exact .inl e⟩
theorem scO_below (k : Nat) (t : List Nat) (a : Nat) (g : Bool) : obBelow k (scO t a g) = true := by simp [scO, obBelow, belows, below]
/-- a method of scans does what f says -/
theorem Sim.scan {N n : Nat} {b : Fs} {f : SF} (h : ∀ s t a g ys m v a' g', ys.length + 1 = n → m[s]? = some (scO t a g) → s < m.length → t.length ≤ cap → f t a g ys = some (v, a', g') → pure? deepest v = true ∧
    ∃ fl, b (startE N (.ref s :: ys)) m = some (.ok fl, m.set s (scO t a' g')) ∧ (fl = .ret v ∨ ((∃ r, fl = .next r) ∧ v = .non))) : Sim N n b (scanF f) := fun xs m x m2 hl hF => by
  unfold scanF at hF
  split at hF
  · rename_i x0 ys
    split at hF
    · rename_i s t a g hs
      obtain ⟨rfl, hm, ht⟩ := scOf_is hs
      split at hF
      · rename_i v a' g' hf
        simp only [Option.some.injEq, Prod.mk.injEq] at hF
        obtain ⟨rfl, rfl⟩ := hF
        obtain ⟨hp, fl, h1, h2⟩ := h s t a g ys m v a' g' hl hm (List.getElem?_eq_some_iff.mp hm).1 ht hf
        exact ⟨fl, _, v, m.length, h1, h2, by rw [List.take_of_length_le (by simp)], set_cmp (Nat.le_refl _) (scO_below _ _ _ _), frz_pure _ _ _ _ hp⟩
      · cases hF
    · cases hF
  · cases hF
theorem Sim.read {N : Nat} {b : Fs} {f : List Nat → Nat → Bool → PV} (h : ∀ s t a g m, m[s]? = some (scO t a g) → t.length ≤ cap → pure? deepest (f t a g) = true ∧ b (startE N [.ref s]) m = some (.ok (.ret (f t a g)), m)) : Sim N 1 b (readF f) :=
  Sim.pure fun xs m x m2 hl hF => by
    unfold readF at hF
    split at hF
    · rename_i x0
      split at hF
      · rename_i s t a g hs
        obtain ⟨rfl, hm, ht⟩ := scOf_is hs
        simp only [Option.some.injEq, Prod.mk.injEq] at hF
        obtain ⟨rfl, rfl⟩ := hF
        obtain ⟨hp, h1⟩ := h s t a g m hm ht
        exact ⟨rfl, h1, hp⟩
      · cases hF
    · cases hF
/-! ### what scans do -/
def runOf (t : List Nat) (a : Nat) : List Nat := (t.drop a).takeWhile isAN
def F_Scan_init : Fn := fun xs m => match xs with
  | [.ref s, .str t] => match m[s]? with
    | some (.ins c []) => if c = 1 then some (.non, m.set s (scO t 0 true)) else none
    | _ => none
  | _ => none
def F_Scan_next_sign : Fn := readF fun t a _ => .str ((t.drop a).take 1)
def F_Scan_rest_run : Fn := readF fun t a _ => .str (runOf t a)
def wordS (t : List Nat) : List Nat → Nat → Bool → Nat × Bool
  | [], a, g => (a, g)
  | c :: cs, a, g => if g = true ∧ t[a]? = some c then wordS t cs (a + 1) g else (a, false)
def F_Scan_take_word : Fn := scanF fun t a g ys => match ys with
  | [.str w] => some (.non, wordS t w a g)
  | _ => none
def nameS (t : List Nat) (a : Nat) (g : Bool) : List Nat × Nat × Bool :=
  let r := runOf t a
  if g = false ∨ r = [] ∨ (∃ c, r.head? = some c ∧ isD c = true) then ([], a, false) else (r, a + min r.length 8, decide (r.length ≤ 8) && !decide (r ∈ RES))
def F_Scan_take_name : Fn := scanF fun t a g ys => match ys with
  | [] => some (.str (nameS t a g).1, (nameS t a g).2)
  | _ => none
def signsN (t signs : List Nat) (most a : Nat) (g : Bool) : Nat := if g then min most ((t.drop a).takeWhile (fun c => decide (c ∈ signs))).length else 0
def F_Scan_take_signs : Fn := scanF fun t a g ys => match ys with
  | [.str signs, .int least, .int most] => if 0 ≤ most then
      let k := signsN t signs most.toNat a g
      some (.str ((t.drop a).take k), a + k, g && decide (least ≤ k)) else none
  | _ => none
def numOf (r : List Nat) : Int := ((NumText.digitsVal r : Nat) : Int)
def begB (r : List Nat) (most : Int) : Bool := r.all isD && !(decide (r.head? = some 48) && decide (r ≠ [48])) && decide (numOf r ≤ most)
def F_is_beginning : Fn := fun xs m => match xs with
  | [.str r, .int most] => if r ≠ [] ∧ r.length ≤ cap then some (.bl (begB r most), m) else none
  | _ => none
/-- from k on: n more may be tried -/
def cntS (r : List Nat) (most : Int) : Nat → Nat → Nat
  | 0, k => k
  | n + 1, k => if begB (r.take (k + 1)) most then cntS r most n (k + 1) else k
def countS (t : List Nat) (a : Nat) (g : Bool) (most : Int) : PV × Nat × Bool :=
  let r := runOf t a
  let k := cntS r most r.length 0
  let g' := g && decide (0 < k) && decide (k = r.length)
  (.int (if g' then numOf r else 0), a + (if g then k else 0), g')
def F_Scan_take_count : Fn := scanF fun t a g ys => match ys with
  | [.int most] => some (countS t a g most)
  | _ => none
def F_Scan_take_end : Fn := scanF fun t a g ys => match ys with
  | [] => some (.non, a, g && decide (a = t.length))
  | _ => none
def nameB (z : List Nat) : Bool := decide (1 ≤ z.length) && decide (z.length ≤ 8) && (match z with | [] => false | c :: _ => isL c) && z.all isAN && !decide (z ∈ RES)
def F_is_name : Fn := fun xs m => match xs with
  | [.str z] => if z.length ≤ cap then some (.bl (nameB z), m) else none
  | _ => none
end K29
namespace K29
open PySem L2 Mini
/-- is_name: slots thing 0 sign 1 -/
noncomputable def m_is_name : Fs :=
    (sSeq (sIf (fOrT (fNotT (fTst (fBlt vIsInst (aCons (fVar 0) (aCons (fC (.ty "str")) aNil))))) (fOrT (fNotT (fTst (fChain vLe vLe (fC (.int 1)) (fBlt vLen (aCons (fVar 0) aNil)) (fC c_MOST_SIGNS)))) (fTst (f2 vNotIn (f2 vIx (fVar 0) (fC (.int 0))) (fC c_LETTERS))))) (sRet (fC (.bl false))) sNil)
    (sRet (fAnd (fBlt vAll (aCons (fLst (lComp (iAny (fVar 0)) (.nm 1) fYes (f2 vIn (fVar 1) (f2 vAdd (fC c_LETTERS) (fC c_DIGITS))) [1])) aNil)) (f2 vNotIn (fVar 0) (fC c_RESERVED)))))
/-- Scan_init: slots self 0 text 1 -/
noncomputable def m_Scan_init : Fs :=
    (sSeq (sFld 1 "text" (fVar 0) (fVar 1))
    (sSeq (sFld 1 "at" (fVar 0) (fC (.int 0)))
    (sFld 1 "good" (fVar 0) (fC (.bl true)))))
/-- Scan_next_sign: slots self 0 -/
noncomputable def m_Scan_next_sign : Fs :=
    (sRet (fSl (f1 (vFl 1 "text") (fVar 0)) (oSome (f1 (vFl 1 "at") (fVar 0))) (oSome (f2 vAdd (f1 (vFl 1 "at") (fVar 0)) (fC (.int 1))))))
/-- Scan_rest_run: slots self 0 end 1 -/
noncomputable def m_Scan_rest_run : Fs :=
    (sSeq (sAsg (.nm 1) (f1 (vFl 1 "at") (fVar 0)))
    (sSeq (loopW (fAndT (fTst (f2 vLt (fVar 1) (fBlt vLen (aCons (f1 (vFl 1 "text") (fVar 0)) aNil)))) (fTst (f2 vIn (f2 vIx (f1 (vFl 1 "text") (fVar 0)) (fVar 1)) (f2 vAdd (fC c_LETTERS) (fC c_DIGITS))))) (sAug 1 vAddI (fC (.int 1))) fuel)
    (sRet (fSl (f1 (vFl 1 "text") (fVar 0)) (oSome (f1 (vFl 1 "at") (fVar 0))) (oSome (fVar 1))))))
/-- Scan_take_word: slots self 0 word 1 sign 2 -/
noncomputable def m_Scan_take_word : Fs :=
    (sFor (iAny (fVar 1)) (.nm 2) (sSeq (sIf (fOrT (fNotT (fTst (f1 (vFl 1 "good") (fVar 0)))) (fTst (f2 vNe (fMt 1 "next_sign" 1 F_Scan_next_sign (fVar 0) aNil) (fVar 2)))) (sSeq (sFld 1 "good" (fVar 0) (fC (.bl false)))
    sRetN) sNil)
    (sFldAug 1 "at" vAddI (fVar 0) (fC (.int 1)))))
/-- Scan_take_name: slots self 0 run 1 -/
noncomputable def m_Scan_take_name : Fs :=
    (sSeq (sAsg (.nm 1) (fMt 1 "rest_run" 1 F_Scan_rest_run (fVar 0) aNil))
    (sSeq (sIf (fOrT (fNotT (fTst (f1 (vFl 1 "good") (fVar 0)))) (fOrT (fTst (f2 vEq (fVar 1) (fC (.str [])))) (fTst (f2 vIn (f2 vIx (fVar 1) (fC (.int 0))) (fC c_DIGITS))))) (sSeq (sFld 1 "good" (fVar 0) (fC (.bl false)))
    (sRet (fC (.str [])))) sNil)
    (sSeq (sFldAug 1 "at" vAddI (fVar 0) (fBlt vMin (aCons (fBlt vLen (aCons (fVar 1) aNil)) (aCons (fC c_MOST_SIGNS) aNil))))
    (sSeq (sFld 1 "good" (fVar 0) (fAnd (f2 vLe (fBlt vLen (aCons (fVar 1) aNil)) (fC c_MOST_SIGNS)) (f2 vNotIn (fVar 1) (fC c_RESERVED))))
    (sRet (fVar 1))))))
/-- Scan_take_signs: slots self 0 signs 1 least 2 most 3 many 4 -/
noncomputable def m_Scan_take_signs : Fs :=
    (sSeq (sAsg (.nm 4) (fC (.int 0)))
    (sSeq (loopW (fAndT (fTst (f1 (vFl 1 "good") (fVar 0))) (fAndT (fTst (f2 vLt (fVar 4) (fVar 3))) (fAndT (fTst (f2 vNe (fMt 1 "next_sign" 1 F_Scan_next_sign (fVar 0) aNil) (fC (.str [])))) (fTst (f2 vIn (fMt 1 "next_sign" 1 F_Scan_next_sign (fVar 0) aNil) (fVar 1)))))) (sSeq (sFldAug 1 "at" vAddI (fVar 0) (fC (.int 1)))
    (sAug 4 vAddI (fC (.int 1)))) fuel)
    (sSeq (sFld 1 "good" (fVar 0) (fAnd (f1 (vFl 1 "good") (fVar 0)) (f2 vGe (fVar 4) (fVar 2))))
    (sRet (fSl (f1 (vFl 1 "text") (fVar 0)) (oSome (f2 vSub (f1 (vFl 1 "at") (fVar 0)) (fVar 4))) (oSome (f1 (vFl 1 "at") (fVar 0))))))))
/-- is_beginning: slots run 0 most 1 sign 2 -/
noncomputable def m_is_beginning : Fs :=
    (sSeq (sIf (fOrT (fNotT (fTst (fBlt vAll (aCons (fLst (lComp (iAny (fVar 0)) (.nm 2) fYes (f2 vIn (fVar 2) (fC c_DIGITS)) [2])) aNil)))) (fAndT (fTst (f2 vEq (f2 vIx (fVar 0) (fC (.int 0))) (fC (.str [48])))) (fTst (f2 vNe (fVar 0) (fC (.str [48])))))) (sRet (fC (.bl false))) sNil)
    (sRet (f2 vLe (fBlt vInt (aCons (fVar 0) aNil)) (fVar 1))))
/-- Scan_take_count: slots self 0 most 1 run 2 many 3 -/
noncomputable def m_Scan_take_count : Fs :=
    (sSeq (sAsg (.nm 2) (fMt 1 "rest_run" 1 F_Scan_rest_run (fVar 0) aNil))
    (sSeq (sAsg (.nm 3) (fC (.int 0)))
    (sSeq (loopW (fAndT (fTst (f2 vLt (fVar 3) (fBlt vLen (aCons (fVar 2) aNil)))) (fTst (fCl 2 F_is_beginning (aCons (fSl (fVar 2) oNone (oSome (f2 vAdd (fVar 3) (fC (.int 1))))) (aCons (fVar 1) aNil))))) (sAug 3 vAddI (fC (.int 1))) fuel)
    (sSeq (sFldAug 1 "at" vAddI (fVar 0) (fIf (fTst (f1 (vFl 1 "good") (fVar 0))) (fVar 3) (fC (.int 0))))
    (sSeq (sFld 1 "good" (fVar 0) (fAnd (f1 (vFl 1 "good") (fVar 0)) (fAnd (f2 vGt (fVar 3) (fC (.int 0))) (f2 vEq (fVar 3) (fBlt vLen (aCons (fVar 2) aNil))))))
    (sRet (fIf (fTst (f1 (vFl 1 "good") (fVar 0))) (fBlt vInt (aCons (fVar 2) aNil)) (fC (.int 0)))))))))
/-- Scan_take_end: slots self 0 -/
noncomputable def m_Scan_take_end : Fs :=
    (sFld 1 "good" (fVar 0) (fAnd (f1 (vFl 1 "good") (fVar 0)) (f2 vEq (f1 (vFl 1 "at") (fVar 0)) (fBlt vLen (aCons (f1 (vFl 1 "text") (fVar 0)) aNil)))))
end K29
namespace K29
open PySem L2 Mini
theorem cap_line : cap ≤ sizeLine := by decide
@[simp] theorem LET_DIG : LET.length + DIG.length ≤ sizeLine := by decide
theorem isAN_mem (c : Nat) : isAN c = decide (c ∈ LET ++ DIG) := by simp [isAN, isL, isD]
theorem sim_Scan_init : Sim 2 2 m_Scan_init F_Scan_init := fun xs m x m2 hl hF => by
  unfold F_Scan_init at hF
  split at hF
  · rename_i s t
    split at hF
    · rename_i c hm
      split at hF
      · rename_i hc
        subst hc
        cases hF
        have hs : s < m.length := (List.getElem?_eq_some_iff.mp hm).1
        refine ⟨.next [some (.ref s), some (.str t)], m.set s (scO t 0 true), .non, m.length, ?_, .inr ⟨⟨_, rfl⟩, rfl⟩, (List.take_of_length_le (by simp)).symm, set_cmp (Nat.le_refl _) (scO_below _ t 0 true), by simp⟩
        have hset : ∀ o, (m.set s o)[s]? = some o := fun o => List.getElem?_set_self hs
        simp [m_Scan_init, startE, hm, hset, putP, scO]
      · cases hF
    · cases hF
  · cases hF
theorem sim_Scan_next_sign : Sim 1 1 m_Scan_next_sign F_Scan_next_sign := Sim.read fun s t a g m hm ht => by
  have hm' := hm
  unfold scO at hm'
  refine ⟨rfl, ?_⟩
  have h1 : t.length ≤ sizeLine := Nat.le_trans ht cap_line
  have e := cutL_nat t a (a + 1)
  simp [m_Scan_next_sign, startE, hm', List.lookup, h1]
  simpa using e
/-- the run's end, one by one -/
theorem run_loop (s : Nat) (t : List Nat) (a : Nat) (g : Bool) (m : Sto) (hm : m[s]? = some (scO t a g)) (ht : t.length ≤ cap) : ∀ (n k : Nat) (F : Nat), n + k = (runOf t a).length → n < F →
    loopW (fAndT (fTst (f2 vLt (fVar 1) (fBlt vLen (aCons (f1 (vFl 1 "text") (fVar 0)) aNil)))) (fTst (f2 vIn (f2 vIx (f1 (vFl 1 "text") (fVar 0)) (fVar 1)) (f2 vAdd (fC c_LETTERS) (fC c_DIGITS))))) (sAug 1 vAddI (fC (.int 1))) F
      [some (.ref s), some (.int ((a + k : Nat) : Int))] m = some (.ok (.next [some (.ref s), some (.int ((a + (runOf t a).length : Nat) : Int))]), m) := by
  intro n
  have hm' := hm
  unfold scO at hm'
  have h1 : t.length ≤ sizeLine := Nat.le_trans ht cap_line
  induction n with
  | zero =>
    intro k F hk hF
    obtain ⟨F, rfl⟩ : ∃ F', F = F' + 1 := ⟨F - 1, by omega⟩
    rw [loopW_e]
    have hk' : k = (runOf t a).length := by omega
    subst hk'
    by_cases hlt : a + (runOf t a).length < t.length
    · have e : (t.drop a)[(runOf t a).length]? = some t[a + (runOf t a).length] := by rw [List.getElem?_drop]; simp [hlt]
      have hf := takeWhile_at isAN (t.drop a) _ _ rfl e
      rw [isAN_mem] at hf
      have hf' : t[a + (runOf t a).length] ∉ LET ++ DIG := by simpa using hf
      have hat : atI t ((a : Int) + ((runOf t a).length : Int)) = some t[a + (runOf t a).length] := by
        rw [← Int.natCast_add, at_nat]; simp [hlt]
      have hlt' : (a : Int) + ((runOf t a).length : Int) < (t.length : Int) := by omega
      simp [hm', List.lookup, h1, hat, hlt', c_LETTERS, c_DIGITS]
      exact fun h => absurd h (by simpa using hf')
    · have hlt' : ¬ (a : Int) + ((runOf t a).length : Int) < (t.length : Int) := by omega
      simp [hm', List.lookup, h1, hlt']
  | succ n ih =>
    intro k F hk hF
    obtain ⟨F, rfl⟩ : ∃ F', F = F' + 1 := ⟨F - 1, by omega⟩
    rw [loopW_e]
    have hkl : k < (runOf t a).length := by omega
    have hc : (runOf t a)[k]? = some (runOf t a)[k] := by simp [hkl]
    have hmem : isAN (runOf t a)[k] = true := by
      have := List.all_takeWhile (p := isAN) (l := t.drop a)
      rw [List.all_eq_true] at this
      exact this _ (List.getElem_mem hkl)
    have hpre : (t.drop a)[k]? = some (runOf t a)[k] := by
      obtain ⟨ys, e⟩ := List.takeWhile_prefix isAN (l := t.drop a)
      have e' : runOf t a ++ ys = t.drop a := e
      rw [← e', List.getElem?_append_left hkl]; exact hc
    rw [List.getElem?_drop] at hpre
    have hlt : a + k < t.length := (List.getElem?_eq_some_iff.mp hpre).1
    have hat : atI t ((a : Int) + (k : Int)) = some (runOf t a)[k] := by
      rw [← Int.natCast_add, at_nat]; exact hpre
    rw [isAN_mem] at hmem
    have hmem' : (runOf t a)[k] ∈ LET ++ DIG := by simpa using hmem
    have hlt' : (a : Int) + (k : Int) < (t.length : Int) := by omega
    have := ih (k + 1) F (by omega) (by omega)
    simp only [Int.natCast_add, Int.natCast_one] at this
    simp [hm', List.lookup, h1, hat, hlt', c_LETTERS, c_DIGITS]
    have hmem2 : (runOf t a)[k] ∈ LET ∨ (runOf t a)[k] ∈ DIG := by simpa using hmem'
    simp [hmem2]
    simpa [Int.add_assoc, c_LETTERS, c_DIGITS] using this
theorem sim_Scan_rest_run : Sim 2 1 m_Scan_rest_run F_Scan_rest_run := Sim.read fun s t a g m hm ht => by
  have hm' := hm
  unfold scO at hm'
  refine ⟨rfl, ?_⟩
  have h1 : t.length ≤ sizeLine := Nat.le_trans ht cap_line
  have hrl : (runOf t a).length ≤ t.length := by
    have := (List.takeWhile_sublist isAN (l := t.drop a)).length_le
    unfold runOf
    simp at this
    omega
  have lp := run_loop s t a g m hm ht (runOf t a).length 0 fuel (by omega) (by unfold fuel; unfold cap at ht; omega)
  have e := cutL_nat t a (a + (runOf t a).length)
  have e2 : (t.drop a).take (a + (runOf t a).length - a) = runOf t a := by
    rw [Nat.add_sub_cancel_left]
    obtain ⟨ys, e⟩ := List.takeWhile_prefix isAN (l := t.drop a)
    have e' : runOf t a ++ ys = t.drop a := e
    rw [← e', List.take_left']
    rfl
  simp only [Nat.add_zero] at lp
  simp [m_Scan_rest_run, startE, hm', List.lookup, lp, h1]
  rw [e2] at e
  simpa using e
theorem set_same {m : Sto} {s : Nat} {o : Ob} (h : m[s]? = some o) : m.set s o = m := by
  obtain ⟨h1, rfl⟩ := List.getElem?_eq_some_iff.mp h
  exact List.set_getElem_self h1
/-- take_word, one by one -/
def bodyW : Fs := (sSeq (sIf (fOrT (fNotT (fTst (f1 (vFl 1 "good") (fVar 0)))) (fTst (f2 vNe (fMt 1 "next_sign" 1 F_Scan_next_sign (fVar 0) aNil) (fVar 2)))) (sSeq (sFld 1 "good" (fVar 0) (fC (.bl false)))
    sRetN) sNil)
    (sFldAug 1 "at" vAddI (fVar 0) (fC (.int 1))))
theorem take_one (t : List Nat) (a : Nat) : (t.drop a).take 1 = match t[a]? with | some c => [c] | none => [] := by
  by_cases h : a < t.length
  · rw [List.drop_eq_getElem_cons h, List.getElem?_eq_getElem h]; rfl
  · rw [List.drop_eq_nil_of_le (by omega), List.getElem?_eq_none (by omega)]; rfl
theorem word_turn (s : Nat) (t : List Nat) (a : Nat) (g : Bool) (m : Sto) (w : PV) (c : Nat) (hm : m[s]? = some (scO t a g)) (ht : t.length ≤ cap) :
    bodyW [some (.ref s), some w, some (.str [c])] m = if g = true ∧ t[a]? = some c then some (.ok (.next [some (.ref s), some w, some (.str [c])]), m.set s (scO t (a + 1) g)) else some (.ok (.ret .non), m.set s (scO t a false)) := by
  have hs : s < m.length := (List.getElem?_eq_some_iff.mp hm).1
  have hset : ∀ o, (m.set s o)[s]? = some o := fun o => List.getElem?_set_self hs
  have hr := readF_run (f := fun t a _ => .str ((t.drop a).take 1)) hm ht
  have hm' := hm
  unfold scO at hm'
  cases g with
  | false => simp [bodyW, hm', List.lookup, hset, putP, scO]
  | true =>
    have hr' : F_Scan_next_sign [.ref s] m = some (.str ((t.drop a).take 1), m) := hr
    rw [take_one] at hr'
    cases hc : t[a]? with
    | none =>
      rw [hc] at hr'
      simp only [] at hr'
      simp [bodyW, hm', List.lookup, hset, putP, scO, hr']
    | some c' =>
      rw [hc] at hr'
      simp only [] at hr'
      by_cases e : c' = c
      · subst e
        simp [bodyW, hm', List.lookup, hset, putP, scO, hr']
      · simp [bodyW, hm', List.lookup, hset, putP, scO, hr', e]
theorem word_loop (s : Nat) (t : List Nat) (w0 : PV) (src : Src) (hsrc : ∀ m, src.ok m) (ht : t.length ≤ cap) : ∀ (w : List Nat) (a : Nat) (g : Bool) (x : Option PV) (m : Sto), m[s]? = some (scO t a g) →
    ∃ fl, loopF src (.nm 2) bodyW (w.map fun c => .str [c]) [some (.ref s), some w0, x] m = some (.ok fl, m.set s (scO t (wordS t w a g).1 (wordS t w a g).2)) ∧ (fl = .ret .non ∨ ∃ r, fl = .next r)
  | [], a, g, x, m, hm => by
    refine ⟨_, by
      rw [List.map_nil, loopF_0 (hsrc m)]
      simp only [wordS]
      rw [set_same hm], .inr ⟨_, rfl⟩⟩
  | c :: w, a, g, x, m, hm => by
    have hs : s < m.length := (List.getElem?_eq_some_iff.mp hm).1
    rw [List.map_cons, loopF_e (hsrc m)]
    have tn := word_turn s t a g m w0 c hm ht
    simp only [e_put, List.set_cons_succ, List.set_cons_zero, tn]
    by_cases h : g = true ∧ t[a]? = some c
    · rw [if_pos h]
      obtain ⟨fl, h1, h2⟩ := word_loop s t w0 src hsrc ht w (a + 1) g (some (.str [c])) (m.set s (scO t (a + 1) g)) (List.getElem?_set_self hs)
      refine ⟨fl, ?_, h2⟩
      have e : wordS t (c :: w) a g = wordS t w (a + 1) g := by unfold wordS; rw [if_pos h]; cases w <;> simp [wordS]
      rw [e]
      simpa [Res.bind] using h1
    · rw [if_neg h]
      have e : wordS t (c :: w) a g = (a, false) := by unfold wordS; rw [if_neg h]
      rw [e]
      exact ⟨_, rfl, .inl rfl⟩
theorem sim_Scan_take_word : Sim 3 2 m_Scan_take_word F_Scan_take_word := Sim.scan fun s t a g ys m v a' g' hl hm hs ht hf => by
  split at hf
  · rename_i w
    simp only [Option.some.injEq, Prod.mk.injEq] at hf
    obtain ⟨rfl, h2⟩ := hf
    refine ⟨rfl, ?_⟩
    obtain ⟨fl, h1, h3⟩ := word_loop s t (.str w) ⟨w.map fun c => .str [c], []⟩ (fun m => ok_nil) ht w a g none m hm
    rw [h2] at h1
    exact ⟨fl, by simpa [m_Scan_take_word, startE, bodyW] using h1, h3.imp id fun h => ⟨h, rfl⟩⟩
  · cases hf
theorem run_len (t : List Nat) (a : Nat) : (runOf t a).length ≤ t.length := by
  have := (List.takeWhile_sublist isAN (l := t.drop a)).length_le
  unfold runOf
  simp at this
  omega
theorem sim_Scan_take_name : Sim 2 1 m_Scan_take_name F_Scan_take_name := Sim.scan fun s t a g ys m v a' g' hl hm hs ht hf => by
  split at hf
  · simp only [Option.some.injEq, Prod.mk.injEq] at hf
    obtain ⟨rfl, h2⟩ := hf
    refine ⟨rfl, ?_⟩
    have hset : ∀ o, (m.set s o)[s]? = some o := fun o => List.getElem?_set_self hs
    have hr : F_Scan_rest_run [.ref s] m = some (.str (runOf t a), m) := readF_run hm ht
    have hm' := hm
    unfold scO at hm'
    have hrl := run_len t a
    have h1 : (runOf t a).length ≤ sizeLine := Nat.le_trans (Nat.le_trans hrl ht) cap_line
    generalize hrr : runOf t a = r at *
    have hres : ∀ (z : List Nat) m, vNotIn (.str z) c_RESERVED m = some (.bl (!decide (z ∈ RES))) := fun z m => notIn_strs z RES m
    unfold nameS at h2 ⊢
    rw [hrr] at h2 ⊢
    cases g with
    | false =>
      simp only [true_or, if_true] at h2 ⊢
      cases h2
      refine ⟨_, ?_, .inl rfl⟩
      simp [m_Scan_take_name, startE, hr, hm', List.lookup, hset, putP, scO]
    | true =>
      cases r with
      | nil =>
        simp only [true_or, or_true, if_true] at h2 ⊢
        cases h2
        refine ⟨_, ?_, .inl rfl⟩
        simp [m_Scan_take_name, startE, hr, hm', List.lookup, hset, putP, scO]
      | cons c r =>
        have hat : atI (c :: r) 0 = some c := at_nat (c :: r) 0
        by_cases hd : isD c = true
        · have hd' : c ∈ DIG := by simpa [isD] using hd
          simp only [Bool.true_eq_false, reduceCtorEq, List.head?_cons, Option.some.injEq, exists_eq_left', hd, or_true, false_or, if_true] at h2 ⊢
          cases h2
          refine ⟨_, ?_, .inl rfl⟩
          simp only [List.length_cons] at h1
          simp [m_Scan_take_name, startE, hr, hm', List.lookup, hset, putP, scO, hat, c_DIGITS, hd', h1]
        · have hd' : c ∉ DIG := by simpa [isD] using hd
          have hd2 : isD c = false := by simpa using hd
          simp only [Bool.true_eq_false, reduceCtorEq, List.head?_cons, Option.some.injEq, exists_eq_left', hd2, or_self, Bool.false_eq_true, if_false] at h2 ⊢
          obtain ⟨rfl, rfl⟩ := Prod.mk.inj h2
          refine ⟨_, ?_, .inl rfl⟩
          simp only [List.length_cons] at h1
          by_cases h8 : r.length ≤ 7
          · have e1 : (r.length : Int) + 1 ≤ 8 := by omega
            have e2 : ¬ (8 : Int) < (r.length : Int) + 1 := by omega
            have e3 : min (r.length + 1) 8 = r.length + 1 := by omega
            simp [m_Scan_take_name, startE, hr, hm', List.lookup, hset, putP, scO, hat, c_DIGITS, hd', h1, c_MOST_SIGNS, hres, e1, e2, e3, h8]
          · have e1 : ¬ (r.length : Int) + 1 ≤ 8 := by omega
            have e2 : (8 : Int) < (r.length : Int) + 1 := by omega
            have e3 : min (r.length + 1) 8 = 8 := by omega
            simp [m_Scan_take_name, startE, hr, hm', List.lookup, hset, putP, scO, hat, c_DIGITS, hd', h1, c_MOST_SIGNS, hres, e1, e2, e3, h8]
  · cases hf
/-- take_signs, one by one -/
def condS : Ft := (fAndT (fTst (f1 (vFl 1 "good") (fVar 0))) (fAndT (fTst (f2 vLt (fVar 4) (fVar 3))) (fAndT (fTst (f2 vNe (fMt 1 "next_sign" 1 F_Scan_next_sign (fVar 0) aNil) (fC (.str [])))) (fTst (f2 vIn (fMt 1 "next_sign" 1 F_Scan_next_sign (fVar 0) aNil) (fVar 1))))))
def bodyS : Fs := (sSeq (sFldAug 1 "at" vAddI (fVar 0) (fC (.int 1)))
    (sAug 4 vAddI (fC (.int 1))))
theorem signs_loop (s : Nat) (t signs : List Nat) (least : Int) (most : Nat) (ht : t.length ≤ cap) : ∀ (n a k : Nat) (F : Nat) (m : Sto), m[s]? = some (scO t a true) → n = min (most - k) ((t.drop a).takeWhile (fun c => decide (c ∈ signs))).length → n < F →
    loopW condS bodyS F [some (.ref s), some (.str signs), some (.int least), some (.int (most : Int)), some (.int (k : Int))] m =
      some (.ok (.next [some (.ref s), some (.str signs), some (.int least), some (.int (most : Int)), some (.int ((k + n : Nat) : Int))]), m.set s (scO t (a + n) true)) := by
  intro n
  induction n with
  | zero =>
    intro a k F m hm hn hF
    obtain ⟨F, rfl⟩ : ∃ F', F = F' + 1 := ⟨F - 1, by omega⟩
    have hr' : F_Scan_next_sign [.ref s] m = some (.str ((t.drop a).take 1), m) := readF_run hm ht
    have hm' := hm
    unfold scO at hm'
    rw [take_one] at hr'
    rw [loopW_e]
    by_cases hk : k < most
    · have h0 : ((t.drop a).takeWhile (fun c => decide (c ∈ signs))).length = 0 := by omega
      cases hc : t[a]? with
      | none =>
        rw [hc] at hr'
        simp only [] at hr'
        simp [condS, bodyS, hm', List.lookup, hr', hk, set_same hm]
      | some c =>
        rw [hc] at hr'
        simp only [] at hr'
        have hlt := (List.getElem?_eq_some_iff.mp hc)
        obtain ⟨hlt, e⟩ := hlt
        rw [List.drop_eq_getElem_cons hlt, e, List.takeWhile_cons] at h0
        have hn : c ∉ signs := by
          intro z
          rw [if_pos (by simpa using z)] at h0
          simp at h0
        simp [condS, bodyS, hm', List.lookup, hr', hk, set_same hm, hn]
    · have hk' : ¬ (k : Int) < (most : Int) := by omega
      simp [condS, bodyS, hm', List.lookup, hr', hk, set_same hm]
  | succ n ih =>
    intro a k F m hm hn hF
    obtain ⟨F, rfl⟩ : ∃ F', F = F' + 1 := ⟨F - 1, by omega⟩
    have hs : s < m.length := (List.getElem?_eq_some_iff.mp hm).1
    have hset : ∀ o, (m.set s o)[s]? = some o := fun o => List.getElem?_set_self hs
    have hr' : F_Scan_next_sign [.ref s] m = some (.str ((t.drop a).take 1), m) := readF_run hm ht
    have hm' := hm
    unfold scO at hm'
    rw [take_one] at hr'
    have hk : k < most := by omega
    by_cases hlt : a < t.length
    · have hc : t[a]? = some t[a] := by simp [hlt]
      rw [hc] at hr'
      simp only [] at hr'
      have hin : t[a] ∈ signs := by
        apply Classical.byContradiction
        intro z
        rw [List.drop_eq_getElem_cons hlt, List.takeWhile_cons, if_neg (by simpa using z)] at hn
        simp at hn
      have hn' : n = min (most - (k + 1)) ((t.drop (a + 1)).takeWhile (fun c => decide (c ∈ signs))).length := by
        rw [List.drop_eq_getElem_cons hlt, List.takeWhile_cons, if_pos (by simpa using hin), List.length_cons] at hn
        omega
      have := ih (a + 1) (k + 1) F (m.set s (scO t (a + 1) true)) (hset _) hn' (by omega)
      rw [List.set_set, show a + 1 + n = a + (n + 1) by omega, show k + 1 + n = k + (n + 1) by omega] at this
      rw [loopW_e]
      simp only [scO, Int.natCast_add, Int.natCast_one] at this
      simp [hm', List.lookup, hr', hk, hset, hin, condS, bodyS, putP, scO]
      simpa [hm', List.lookup, hr', hk, hset, hin, condS, bodyS, putP, scO] using this
    · exfalso
      rw [List.drop_eq_nil_of_le (by omega)] at hn
      simp at hn
theorem sim_Scan_take_signs : Sim 5 4 m_Scan_take_signs F_Scan_take_signs := Sim.scan fun s t a g ys m v a' g' hl hm hs ht hf => by
  split at hf
  · rename_i signs least most
    split at hf
    · rename_i h0
      simp only [Option.some.injEq, Prod.mk.injEq] at hf
      obtain ⟨rfl, rfl, rfl⟩ := hf
      refine ⟨rfl, ?_⟩
      obtain ⟨most, rfl⟩ := Int.eq_ofNat_of_zero_le h0
      simp only [Int.toNat_natCast]
      have hset : ∀ o, (m.set s o)[s]? = some o := fun o => List.getElem?_set_self hs
      have hm' := hm
      unfold scO at hm'
      have h1 : t.length ≤ sizeLine := Nat.le_trans ht cap_line
      refine ⟨_, ?_, .inl rfl⟩
      cases g with
      | false =>
        have : loopW condS bodyS fuel [some (.ref s), some (.str signs), some (.int least), some (.int (most : Int)), some (.int 0)] m = some (.ok (.next [some (.ref s), some (.str signs), some (.int least), some (.int (most : Int)), some (.int 0)]), m) := by
          rw [show fuel = 999999999 + 1 from rfl, loopW_e]
          simp [condS, hm', List.lookup]
        have e := cutL_nat t (a - 0) a
        simp [condS, bodyS] at this
        simp [m_Scan_take_signs, startE, this, hm', List.lookup, hset, putP, scO, signsN, h1]
        simpa using cutL_nat t a a
      | true =>
        have tl : ((t.drop a).takeWhile (fun c => decide (c ∈ signs))).length ≤ t.length := by
          have := (List.takeWhile_sublist (fun c => decide (c ∈ signs)) (l := t.drop a)).length_le
          simp at this
          omega
        obtain ⟨n, hn⟩ : ∃ n, signsN t signs most a true = n := ⟨_, rfl⟩
        simp only [hn]
        have hn' : n = min (most - 0) ((t.drop a).takeWhile (fun c => decide (c ∈ signs))).length := by
          rw [← hn]
          simp [signsN]
        have lp := signs_loop s t signs least most ht n a 0 fuel m hm hn' (by unfold fuel; unfold cap at ht; omega)
        simp only [condS, bodyS, Nat.zero_add, scO] at lp
        rw [show ((0 : Nat) : Int) = 0 from rfl] at lp
        have e := cutL_nat t a (a + n)
        rw [Nat.add_sub_cancel_left] at e
        have e2 : (a : Int) + (n : Int) - (n : Int) = (a : Int) := by omega
        simp only [Int.natCast_add] at e lp
        simp [m_Scan_take_signs, startE, lp, hm', List.lookup, hset, putP, scO, h1, e2, e]
    · cases hf
  · cases hf
end K29
set_option maxHeartbeats 400000
namespace K29
open PySem L2 Mini
/-! counts -/
theorem int_dig {z : List Nat} (h : z.all isD = true) (hne : z ≠ []) (hl : z.length ≤ cap) (m : Sto) : Mini.vInt [.str z] m = some (.int (numOf z)) := by
  have hd : z.all (fun c => decide (48 ≤ c) && decide (c ≤ 57)) = true := by
    rw [List.all_eq_true] at h ⊢
    intro c hc
    have := h c hc
    unfold isD DIG at this
    simp only [decide_eq_true_eq, List.mem_range'_1] at this
    simp only [Bool.and_eq_true, decide_eq_true_eq]
    omega
  have e : PySem.intText? (mkS z) = some (numOf z) := SX.int_S hd hne (by unfold cap at hl; omega)
  have : z.length ≤ 640 := by unfold cap at hl; omega
  unfold Mini.vInt
  simp [this, e]
theorem map_sg {f : Nat → Bool} (z : List Nat) : (z.map fun c => PV.str [c]).map (fun x => match x with | .str [c] => PV.bl (f c) | _ => .non) = z.map fun c => PV.bl (f c) := by
  rw [List.map_map]
  rfl
theorem all_loop (z : List Nat) (x1 : Option PV) (rest : Mini.Env) (m : Sto) (cs : List Nat) (hl : z.length ≤ sizeLine) (j : Nat) (r : Mini.Env) (hj : ∀ c, (wipeE r [j]).set j (some (.str [c])) = (wipeE r [j]).set j (some (.str [c]))) (hj2 : j < r.length) (fe : Fe)
    (hfe : ∀ c, fe ((wipeE r [j]).set j (some (.str [c]))) m = some (.ok (.bl (decide (c ∈ cs))), m)) :
    loopC ⟨z.map fun c => .str [c], []⟩ (.nm j) fYes fe [j] r (z.map fun c => .str [c]) m [] = some (.ok (z.map fun c => PV.bl (decide (c ∈ cs))), m) := by
  have := loopC_map (src := ⟨z.map fun c => .str [c], []⟩) (tg := .nm j) (fe := fe) (vs := [j]) (r := r) (m := m) ok_nil (fun x => match x with | .str [c] => PV.bl (decide (c ∈ cs)) | _ => .non) (z.map fun c => .str [c]) [] (by simpa using hl) fun x hx => by
    obtain ⟨c, _, rfl⟩ := List.mem_map.mp hx
    exact ⟨_, by simp, hfe c⟩
  rw [this, map_sg]
  rfl
theorem head_of {z : List Nat} (h : z ≠ []) : ∃ c, z.head? = some c ∧ atI z 0 = some c := by
  cases z with
  | nil => exact absurd rfl h
  | cons c z => exact ⟨c, rfl, at_nat (c :: z) 0⟩
theorem sim_is_beginning : Sim 3 2 m_is_beginning F_is_beginning := Sim.pure fun xs m x m2 hl hF => by
  unfold F_is_beginning at hF
  split at hF
  · rename_i z most
    split at hF
    · rename_i hz
      simp only [Option.some.injEq, Prod.mk.injEq] at hF
      obtain ⟨rfl, rfl⟩ := hF
      refine ⟨rfl, ?_, rfl⟩
      obtain ⟨hne, hcap⟩ := hz
      have h1 : z.length ≤ sizeLine := Nat.le_trans hcap cap_line
      have lp := all_loop z none [] m DIG h1 2 [some (.str z), some (.int most), none] (fun _ => rfl) (by simp) (f2 vIn (fVar 2) (fC c_DIGITS)) (fun c => by simp [wipeE, c_DIGITS])
      obtain ⟨c, hh, hat⟩ := head_of hne
      have hall := v_all (fun c => decide (c ∈ DIG)) z m
      have hall' : z.all isD = z.all fun c => decide (c ∈ DIG) := rfl
      rw [← hall'] at hall
      unfold begB
      rw [hh]
      clear hall'
      cases ha : z.all isD with
      | true =>
        have hi := int_dig ha hne hcap m
        rw [ha] at hall
        by_cases h48 : c = 48
        · subst h48
          by_cases hz' : z = [48]
          · have hz2 := eq_true hz'
            clear hz'
            simp [m_is_beginning, startE, lp, hall, hat, hi, h1, hz2]
          · simp [m_is_beginning, startE, lp, hall, hat, hi, h1, hz']
        · simp [m_is_beginning, startE, lp, hall, hat, hi, h1, h48]
      | false =>
        rw [ha] at hall
        simp [m_is_beginning, startE, lp, hall]
    · cases hF
  · cases hF
theorem cntS_le (r : List Nat) (most : Int) : ∀ (n k : Nat), k ≤ cntS r most n k ∧ cntS r most n k ≤ k + n
  | 0, k => by simp [cntS]
  | n + 1, k => by
    unfold cntS
    split
    · have := cntS_le r most n (k + 1)
      omega
    · omega
theorem count_loop (s : Nat) (r : List Nat) (most : Int) (m : Sto) (hr : r.length ≤ cap) : ∀ (n k : Nat) (F : Nat), n + k = r.length → n < F →
    loopW (fAndT (fTst (f2 vLt (fVar 3) (fBlt vLen (aCons (fVar 2) aNil)))) (fTst (fCl 2 F_is_beginning (aCons (fSl (fVar 2) oNone (oSome (f2 vAdd (fVar 3) (fC (.int 1))))) (aCons (fVar 1) aNil))))) (sAug 3 vAddI (fC (.int 1))) F
      [some (.ref s), some (.int most), some (.str r), some (.int (k : Int))] m = some (.ok (.next [some (.ref s), some (.int most), some (.str r), some (.int ((cntS r most n k : Nat) : Int))]), m) := by
  have h1 : r.length ≤ sizeLine := Nat.le_trans hr cap_line
  intro n
  induction n with
  | zero =>
    intro k F hk hF
    obtain ⟨F, rfl⟩ : ∃ F', F = F' + 1 := ⟨F - 1, by omega⟩
    rw [loopW_e]
    have hk' : ¬ k < r.length := by omega
    simp [h1, hk', cntS]
  | succ n ih =>
    intro k F hk hF
    obtain ⟨F, rfl⟩ : ∃ F', F = F' + 1 := ⟨F - 1, by omega⟩
    have hk' : k < r.length := by omega
    have e := cutL_to r (k + 1)
    rw [Int.natCast_add] at e
    have e : cutL r none (some ((k : Int) + 1)) = r.take (k + 1) := e
    have hb : F_is_beginning [.str (r.take (k + 1)), .int most] m = some (.bl (begB (r.take (k + 1)) most), m) := by
      unfold F_is_beginning
      have h2 : r.take (k + 1) ≠ [] := by
        intro z
        have := congrArg List.length z
        rw [List.length_take, List.length_nil] at this
        omega
      have h3 : (r.take (k + 1)).length ≤ cap := by rw [List.length_take]; omega
      simp only [h2, h3, ne_eq, not_false_eq_true, and_self, if_true]
    have := ih (k + 1) F (by omega) (by omega)
    rw [Int.natCast_add] at this
    have this : _ = _ := this
    rw [show ((k : Int) + ((1 : Nat) : Int)) = (k : Int) + 1 from rfl] at this
    rw [loopW_e]
    unfold cntS
    cases hbb : begB (r.take (k + 1)) most with
    | true =>
      rw [hbb] at hb
      simp [h1, hk', e, hb, this]
    | false =>
      rw [hbb] at hb
      simp [h1, hk', e, hb]
theorem sim_Scan_take_count : Sim 4 2 m_Scan_take_count F_Scan_take_count := Sim.scan fun s t a g ys m v a' g' hl hm hs ht hf => by
  split at hf
  · rename_i most
    simp only [Option.some.injEq] at hf
    have hset : ∀ o, (m.set s o)[s]? = some o := fun o => List.getElem?_set_self hs
    have hr : F_Scan_rest_run [.ref s] m = some (.str (runOf t a), m) := readF_run hm ht
    have hm' := hm
    unfold scO at hm'
    have hrl : (runOf t a).length ≤ cap := Nat.le_trans (run_len t a) ht
    have h1 : (runOf t a).length ≤ sizeLine := Nat.le_trans hrl cap_line
    unfold countS at hf
    obtain ⟨r, hrr⟩ : ∃ r, runOf t a = r := ⟨_, rfl⟩
    have hAN : r.all isAN = true := by rw [← hrr]; exact List.all_takeWhile
    simp only [hrr] at hf hr hrl h1
    have lp := count_loop s r most m hrl r.length 0 fuel (by omega) (by unfold fuel; unfold cap at hrl; omega)
    rw [show ((0 : Nat) : Int) = 0 from rfl] at lp
    have hcl := cntS_le r most r.length 0
    obtain ⟨k, hk⟩ : ∃ k, cntS r most r.length 0 = k := ⟨_, rfl⟩
    simp only [hk] at hf lp hcl
    simp only [Prod.mk.injEq] at hf
    obtain ⟨rfl, rfl, rfl⟩ := hf
    refine ⟨rfl, ?_⟩
    cases g with
    | false =>
      refine ⟨_, ?_, .inl rfl⟩
      simp [m_Scan_take_count, startE, hr, hm', List.lookup, hset, putP, scO, lp]
    | true =>
      by_cases hk0 : 0 < k
      · by_cases hkl : k = r.length
        · have hd : r.all isD = true := by
            have key : ∀ n j, n + j = r.length → cntS r most n j = r.length → j < r.length → begB r most = true := by
              intro n
              induction n with
              | zero => intro j h1 h2 h3; omega
              | succ n ih =>
                intro j h1 h2 h3
                unfold cntS at h2
                split at h2
                · rename_i hb
                  by_cases hj : j + 1 < r.length
                  · exact ih (j + 1) (by omega) h2 hj
                  · rw [List.take_of_length_le (by omega)] at hb
                    exact hb
                · omega
            have := key r.length 0 (by omega) (by omega) (by omega)
            unfold begB at this
            simp only [Bool.and_eq_true] at this
            exact this.1.1
          have hne : r ≠ [] := by
            intro z
            subst z
            simp at hkl
            omega
          have hi := int_dig hd hne hrl
          subst hkl
          refine ⟨_, ?_, .inl rfl⟩
          simp [m_Scan_take_count, startE, hr, hm', List.lookup, hset, putP, scO, lp, h1, hk0, hi]
        · have hkl' : ¬ (k : Int) = (r.length : Int) := by omega
          refine ⟨_, ?_, .inl rfl⟩
          simp [m_Scan_take_count, startE, hr, hm', List.lookup, hset, putP, scO, lp, h1, hk0, hkl, hkl']
      · refine ⟨_, ?_, .inl rfl⟩
        have hk0' : k = 0 := by omega
        subst hk0'
        simp [m_Scan_take_count, startE, hr, hm', List.lookup, hset, putP, scO, lp, h1]
  · cases hf
theorem sim_Scan_take_end : Sim 1 1 m_Scan_take_end F_Scan_take_end := Sim.scan fun s t a g ys m v a' g' hl hm hs ht hf => by
  split at hf
  · simp only [Option.some.injEq, Prod.mk.injEq] at hf
    obtain ⟨rfl, rfl, rfl⟩ := hf
    refine ⟨rfl, ?_⟩
    have hset : ∀ o, (m.set s o)[s]? = some o := fun o => List.getElem?_set_self hs
    have hm' := hm
    unfold scO at hm'
    have h1 : t.length ≤ sizeLine := Nat.le_trans ht cap_line
    refine ⟨.next [some (.ref s)], ?_, .inr ⟨⟨_, rfl⟩, rfl⟩⟩
    cases g with
    | false => simp [m_Scan_take_end, startE, hm', List.lookup, hset, putP, scO]
    | true => simp [m_Scan_take_end, startE, hm', List.lookup, hset, putP, scO, h1, Int.natCast_inj]
  · cases hf
end K29
namespace K29
open PySem L2 Mini
/-! ### shapes of lines -/
def wRing : List Nat := [114, 105, 110, 103, 32]
def wCells : List Nat := [99, 101, 108, 108, 115, 32]
def wBin : List Nat := [98, 105, 110, 32]
def wAt : List Nat := [32, 97, 116, 32]
def wOn : List Nat := [32, 111, 110, 32]
def wCarry : List Nat := [99, 97, 114, 114, 121, 32]
def wTo : List Nat := [32, 116, 111, 32]
def wDo : List Nat := [100, 111, 32]
def wLast : List Nat := [108, 97, 115, 116, 32]
def wCuts : List Nat := [99, 117, 116, 115, 32]
def sCells : List Nat := [99, 101, 108, 108, 115]
def sBin : List Nat := [98, 105, 110]
def sCarry : List Nat := [99, 97, 114, 114, 121]
def sDo : List Nat := [100, 111]
def sLast : List Nat := [108, 97, 115, 116]
def sCuts : List Nat := [99, 117, 116, 115]
def sEnd : List Nat := [101, 110, 100]
abbrev Sh := List Nat → Nat → Bool → PV × Nat × Bool
def shF (f : Sh) : Fn := scanF fun t a g ys => match ys with
  | [] => some (f t a g)
  | _ => none
def sh_ring : Sh := fun t a g =>
  let p := wordS t wRing a g
  let q := nameS t p.1 p.2
  (.tup [.str sR, .str q.1], q.2)
def sh_cells : Sh := fun t a g =>
  let p := wordS t wCells a g
  let k := signsN t [97, 98, 99] 12 p.1 p.2
  (.tup [.str sCells, .str ((t.drop p.1).take k)], p.1 + k, p.2 && decide ((2 : Int) ≤ k))
def sh_bin : Sh := fun t a g =>
  let p := wordS t wBin a g
  let q := nameS t p.1 p.2
  let p2 := wordS t wAt q.2.1 q.2.2
  let c := countS t p2.1 p2.2 11
  (.tup [.str sBin, .str q.1, c.1], c.2)
def sh_head (w : List Nat) : Sh := fun t a g =>
  let p := wordS t (w ++ [32]) a g
  let q := nameS t p.1 p.2
  let p2 := wordS t wOn q.2.1 q.2.2
  let q2 := nameS t p2.1 p2.2
  (.tup [.str w, .str q.1, .str q2.1], q2.2)
def sh_carry : Sh := fun t a g =>
  let p := wordS t wCarry a g
  let q := nameS t p.1 p.2
  let p2 := wordS t wTo q.2.1 q.2.2
  let q2 := nameS t p2.1 p2.2
  (.tup [.str sCarry, .str q.1, .str q2.1], q2.2)
def sh_do : Sh := fun t a g =>
  let p := wordS t wDo a g
  let q := nameS t p.1 p.2
  (.tup [.str sDo, .str q.1], q.2)
def sh_last : Sh := fun t a g =>
  let p := wordS t wLast a g
  let c := countS t p.1 p.2 11
  (.tup [.str sLast, c.1], c.2)
def sh_cuts : Sh := fun t a g =>
  let p := wordS t wCuts a g
  let c := countS t p.1 p.2 4
  (.tup [.str sCuts, c.1], c.2)
def sh_close : Sh := fun t a g =>
  let p := wordS t sEnd a g
  (.tup [.str sEnd], p)
def F_take_ring : Fn := shF sh_ring
def F_take_cells : Fn := shF sh_cells
def F_take_bin : Fn := shF sh_bin
def F_take_head : Fn := scanF fun t a g ys => match ys with
  | [.str w] => if w.length ≤ cap then some (sh_head w t a g) else none
  | _ => none
def F_take_job : Fn := shF (sh_head sJ)
def F_take_day : Fn := shF (sh_head sD)
def F_take_carry : Fn := shF sh_carry
def F_take_do : Fn := shF sh_do
def F_take_last : Fn := shF sh_last
def F_take_cuts : Fn := shF sh_cuts
def F_take_close : Fn := shF sh_close
def shOf : Nat → Option Sh
  | 3 => some sh_ring
  | 4 => some sh_cells
  | 5 => some sh_bin
  | 7 => some (sh_head sJ)
  | 8 => some (sh_head sD)
  | 9 => some sh_carry
  | 10 => some sh_do
  | 11 => some sh_last
  | 12 => some sh_cuts
  | 13 => some sh_close
  | _ => none
def tbl_shapes : Tbl := fun j => (shOf j).map fun f => (1, shF f)
/-! ### a line fitted -/
def fitL (t : List Nat) : List PV → Nat → Option (PV × Nat)
  | [], r => some (.non, r)
  | .glo j :: js, r => match shOf j with
    | some f => let q := f t 0 true
      if (q.2.2 && decide (q.2.1 = t.length)) = true then some (q.1, 0) else fitL t js (max r q.2.1)
    | none => none
  | _ :: _, _ => none
def F_fitted : Fn := fun xs m => match xs with
  | [.str t, .tup js] => if t.length ≤ cap then match fitL t js 0 with
      | some (v, r) => some (.tup [v, .int (r : Nat)], m)
      | none => none else none
  | _ => none
/-! ### reading -/
def rdO (L : List (List Nat)) (k : Nat) : Ob := .ins 15 [("lines", .lst (L.map PV.str)), ("ahead", .int (k : Nat))]
def rdOf (m : Sto) (x : PV) : Option (Nat × List (List Nat) × Nat) := match x with
  | .ref r => match m[r]? with
    | some (.ins c [(k1, .lst xs), (k2, .int a)]) => match strsOf xs with
      | some L => if c = 15 ∧ k1 = "lines" ∧ k2 = "ahead" ∧ 0 ≤ a ∧ L.length ≤ 100000 then some (r, L, a.toNat) else none
      | none => none
    | _ => none
  | _ => none
theorem strsOf_is : ∀ {xs : List PV} {L : List (List Nat)}, strsOf xs = some L → xs = L.map PV.str
  | [], _, e => by simp only [strsOf, Option.some.injEq] at e; subst e; rfl
  | .str i :: r, _, e => by
    simp only [strsOf, Option.map_eq_some_iff] at e
    obtain ⟨ns, e, rfl⟩ := e
    rw [strsOf_is e]
    rfl
  | .non :: _, _, e => by simp [strsOf] at e
  | .bl _ :: _, _, e => by simp [strsOf] at e
  | .int _ :: _, _, e => by simp [strsOf] at e
  | .tup _ :: _, _, e => by simp [strsOf] at e
  | .lst _ :: _, _, e => by simp [strsOf] at e
  | .dct _ _ :: _, _, e => by simp [strsOf] at e
  | .ref _ :: _, _, e => by simp [strsOf] at e
  | .glo _ :: _, _, e => by simp [strsOf] at e
  | .ty _ :: _, _, e => by simp [strsOf] at e
theorem rdOf_is {m : Sto} {x : PV} {r : Nat} {L : List (List Nat)} {k : Nat} (h : rdOf m x = some (r, L, k)) : x = .ref r ∧ m[r]? = some (rdO L k) ∧ L.length ≤ 100000 := by
  unfold rdOf at h
  split at h
  · split at h
    · split at h
      · split at h
        · rename_i hm _ _ hL hc
          obtain ⟨rfl, rfl, rfl, h0, hl⟩ := hc
          simp only [Option.some.injEq, Prod.mk.injEq] at h
          obtain ⟨rfl, rfl, rfl⟩ := h
          refine ⟨rfl, ?_, hl⟩
          rw [hm, strsOf_is hL]
          unfold rdO
          rw [Int.toNat_of_nonneg h0]
        · cases h
      · cases h
    · cases h
  · cases h
theorem rdOf_mk {m : Sto} {r : Nat} {L : List (List Nat)} {k : Nat} (h : m[r]? = some (rdO L k)) (hl : L.length ≤ 100000) : rdOf m (.ref r) = some (r, L, k) := by
  unfold rdOf rdO at *
  simp [h, hl, strsOf_map]
abbrev RF := List (List Nat) → Nat → List PV → Option (PV × Nat)
def rdF (f : RF) : Fn := fun xs m => match xs with
  | x :: ys => match rdOf m x with
    | some (r, L, k) => match f L k ys with
      | some (v, k') => some (v, m.set r (rdO L k'))
      | none => none
    | none => none
  | [] => none
def F_Reading_init : Fn := fun xs m => match xs with
  | [.ref r, .str t] => match m[r]? with
    | some (.ins c []) => if c = 15 ∧ t.length ≤ 90000 then some (.non, m.set r (rdO (TL.spl [10] 0 [] t) 0)) else none
    | _ => none
  | _ => none
/-- a row of the shapes js -/
def rowS (L : List (List Nat)) (k : Nat) (js : List PV) : Option (PV × Nat) := match L[k]? with
  | some l => if l.length ≤ cap then match fitL l js 0 with
    | some (.tup v, _) => some (.tup v, k + 1)
    | _ => none else none
  | none => none
def F_Reading_take_row : Fn := rdF fun L k ys => match ys with
  | [.tup js] => rowS L k js
  | _ => none
def F_Reading_are_left : Fn := fun xs m => match xs with
  | [x] => match rdOf m x with
    | some (_, L, k) => some (.bl (decide (k < L.length)), m)
    | none => none
  | _ => none
/-- rows with the word w in front, then another row: what stands behind the words, the other row, how far -/
def manyS (L : List (List Nat)) (js : List PV) (go : List Nat → Bool) : Nat → Nat → List PV → Option (List PV × List PV × Nat)
  | 0, _, _ => none
  | n + 1, k, acc => match rowS L k js with
    | some (.tup (.str w :: rest), k') => if go w then manyS L js go n k' (acc ++ [.tup rest]) else some (acc, .str w :: rest, k')
    | _ => none
def ringS (nm : List Nat) (L : List (List Nat)) (k : Nat) : Option (PV × Nat) := match rowS L k [.glo 4] with
  | some (.tup [.str _, .str w], k1) => match manyS L [.glo 5, .glo 13] (fun w => decide (w = sBin)) (L.length + 1) k1 [] with
    | some (bs, _, k2) => some (.tup [.str nm, .str w, .tup bs], k2)
    | none => none
  | _ => none
def F_Reading_take_ring_behind : Fn := rdF fun L k ys => match ys with
  | [.tup [.str _, .str nm]] => ringS nm L k
  | _ => none
def lastS (L : List (List Nat)) (w : List Nat) (x : PV) (k : Nat) : Option (PV × PV × Nat) :=
  if w = sLast then match rowS L k [.glo 12] with
    | some (.tup [.str _, .int c], k') => some (x, .int c, k')
    | _ => none else some (.non, x, k)
def firsts : List PV → Option (List PV)
  | [] => some []
  | .tup (x :: _) :: r => (firsts r).map (x :: ·)
  | _ => none
def rowsS (w nm ring : List Nat) (j : Nat) (L : List (List Nat)) (k : Nat) : Option (PV × Nat) := match rowS L k [.glo j] with
  | some (.tup (.str _ :: rest), k1) => match manyS L [.glo j, .glo 11, .glo 12] (fun w => !decide (w ∈ [sLast, sCuts])) (L.length + 1) k1 [.tup rest] with
    | some (rs, [.str w2, .int x], k2) => match lastS L w2 (.int x) k2 with
      | some (last, cuts, k3) => match rowS L k3 [.glo 13] with
        | some (_, k4) => if w = sJ then some (.tup [.str nm, .str ring, .tup rs, last, cuts], k4) else match firsts rs with
          | some fs => some (.tup [.str nm, .str ring, .tup fs, last, cuts], k4)
          | none => none
        | none => none
      | none => none
    | _ => none
  | _ => none
def F_Reading_take_rows_behind : Fn := rdF fun L k ys => match ys with
  | [.tup [.str w, .str nm, .str ring], .glo j] => rowsS w nm ring j L k
  | _ => none
end K29
namespace K29
open PySem L2 Mini
/-- take_ring: slots scan 0 -/
noncomputable def m_take_ring : Fs :=
    (sSeq (sDrop (fMt 1 "take_word" 2 F_Scan_take_word (fVar 0) (aCons (fC (.str [114, 105, 110, 103, 32])) aNil)))
    (sRet (fTup (aCons (fC (.str [114, 105, 110, 103])) (aCons (fMt 1 "take_name" 1 F_Scan_take_name (fVar 0) aNil) aNil)))))
/-- take_cells: slots scan 0 -/
noncomputable def m_take_cells : Fs :=
    (sSeq (sDrop (fMt 1 "take_word" 2 F_Scan_take_word (fVar 0) (aCons (fC (.str [99, 101, 108, 108, 115, 32])) aNil)))
    (sRet (fTup (aCons (fC (.str [99, 101, 108, 108, 115])) (aCons (fMt 1 "take_signs" 4 F_Scan_take_signs (fVar 0) (aCons (fC c_MARKS) (aCons (fC c_LEAST_CELLS) (aCons (fC c_MOST_CELLS) aNil)))) aNil)))))
/-- take_bin: slots scan 0 name 1 -/
noncomputable def m_take_bin : Fs :=
    (sSeq (sDrop (fMt 1 "take_word" 2 F_Scan_take_word (fVar 0) (aCons (fC (.str [98, 105, 110, 32])) aNil)))
    (sSeq (sAsg (.nm 1) (fMt 1 "take_name" 1 F_Scan_take_name (fVar 0) aNil))
    (sSeq (sDrop (fMt 1 "take_word" 2 F_Scan_take_word (fVar 0) (aCons (fC (.str [32, 97, 116, 32])) aNil)))
    (sRet (fTup (aCons (fC (.str [98, 105, 110])) (aCons (fVar 1) (aCons (fMt 1 "take_count" 2 F_Scan_take_count (fVar 0) (aCons (f2 vSub (fC c_MOST_CELLS) (fC (.int 1))) aNil)) aNil))))))))
/-- take_head: slots scan 0 word 1 name 2 -/
noncomputable def m_take_head : Fs :=
    (sSeq (sDrop (fMt 1 "take_word" 2 F_Scan_take_word (fVar 0) (aCons (fJ [(f1 vFmt (fVar 1)), (fC (.str [32]))] []) aNil)))
    (sSeq (sAsg (.nm 2) (fMt 1 "take_name" 1 F_Scan_take_name (fVar 0) aNil))
    (sSeq (sDrop (fMt 1 "take_word" 2 F_Scan_take_word (fVar 0) (aCons (fC (.str [32, 111, 110, 32])) aNil)))
    (sRet (fTup (aCons (fVar 1) (aCons (fVar 2) (aCons (fMt 1 "take_name" 1 F_Scan_take_name (fVar 0) aNil) aNil))))))))
/-- take_job: slots scan 0 -/
noncomputable def m_take_job : Fs :=
    (sRet (fCl 2 F_take_head (aCons (fVar 0) (aCons (fC (.str [106, 111, 98])) aNil))))
/-- take_day: slots scan 0 -/
noncomputable def m_take_day : Fs :=
    (sRet (fCl 2 F_take_head (aCons (fVar 0) (aCons (fC (.str [100, 97, 121])) aNil))))
/-- take_carry: slots scan 0 first 1 -/
noncomputable def m_take_carry : Fs :=
    (sSeq (sDrop (fMt 1 "take_word" 2 F_Scan_take_word (fVar 0) (aCons (fC (.str [99, 97, 114, 114, 121, 32])) aNil)))
    (sSeq (sAsg (.nm 1) (fMt 1 "take_name" 1 F_Scan_take_name (fVar 0) aNil))
    (sSeq (sDrop (fMt 1 "take_word" 2 F_Scan_take_word (fVar 0) (aCons (fC (.str [32, 116, 111, 32])) aNil)))
    (sRet (fTup (aCons (fC (.str [99, 97, 114, 114, 121])) (aCons (fVar 1) (aCons (fMt 1 "take_name" 1 F_Scan_take_name (fVar 0) aNil) aNil))))))))
/-- take_do: slots scan 0 -/
noncomputable def m_take_do : Fs :=
    (sSeq (sDrop (fMt 1 "take_word" 2 F_Scan_take_word (fVar 0) (aCons (fC (.str [100, 111, 32])) aNil)))
    (sRet (fTup (aCons (fC (.str [100, 111])) (aCons (fMt 1 "take_name" 1 F_Scan_take_name (fVar 0) aNil) aNil)))))
/-- take_last: slots scan 0 -/
noncomputable def m_take_last : Fs :=
    (sSeq (sDrop (fMt 1 "take_word" 2 F_Scan_take_word (fVar 0) (aCons (fC (.str [108, 97, 115, 116, 32])) aNil)))
    (sRet (fTup (aCons (fC (.str [108, 97, 115, 116])) (aCons (fMt 1 "take_count" 2 F_Scan_take_count (fVar 0) (aCons (f2 vSub (fC c_MOST_CELLS) (fC (.int 1))) aNil)) aNil)))))
/-- take_cuts: slots scan 0 -/
noncomputable def m_take_cuts : Fs :=
    (sSeq (sDrop (fMt 1 "take_word" 2 F_Scan_take_word (fVar 0) (aCons (fC (.str [99, 117, 116, 115, 32])) aNil)))
    (sRet (fTup (aCons (fC (.str [99, 117, 116, 115])) (aCons (fMt 1 "take_count" 2 F_Scan_take_count (fVar 0) (aCons (fC c_MOST_CUTS) aNil)) aNil)))))
/-- take_close: slots scan 0 -/
noncomputable def m_take_close : Fs :=
    (sSeq (sDrop (fMt 1 "take_word" 2 F_Scan_take_word (fVar 0) (aCons (fC (.str [101, 110, 100])) aNil)))
    (sRet (fTup (aCons (fC (.str [101, 110, 100])) aNil))))
/-- fitted: slots text 0 shapes 1 reached 2 shape 3 scan 4 value 5 -/
noncomputable def m_fitted : Fs :=
    (sSeq (sAsg (.nm 2) (fC (.int 0)))
    (sSeq (sFor (iAny (fVar 1)) (.nm 3) (sSeq (sAsg (.nm 4) (fMk 1 2 F_Scan_init (aCons (fVar 0) aNil)))
    (sSeq (sAsg (.nm 5) (fCallV 3 tbl_shapes (aCons (fVar 4) aNil)))
    (sSeq (sDrop (fMt 1 "take_end" 1 F_Scan_take_end (fVar 4) aNil))
    (sSeq (sIf (fTst (f1 (vFl 1 "good") (fVar 4))) (sRet (fTup (aCons (fVar 5) (aCons (fC (.int 0)) aNil)))) sNil)
    (sAsg (.nm 2) (fBlt vMax (aCons (fVar 2) (aCons (f1 (vFl 1 "at") (fVar 4)) aNil)))))))))
    (sRet (fTup (aCons (fC .non) (aCons (fVar 2) aNil))))))
/-- Reading_init: slots self 0 text 1 -/
noncomputable def m_Reading_init : Fs :=
    (sSeq (sFld 15 "lines" (fVar 0) (fBm "str" vSplit (fVar 1) (aCons (fC (.str [10])) aNil)))
    (sFld 15 "ahead" (fVar 0) (fC (.int 0))))
/-- Reading_take_row: slots self 0 shapes 1 value 2 reached 3 -/
noncomputable def m_Reading_take_row : Fs :=
    (sSeq (sIf (fTst (f2 vEq (f1 (vFl 15 "ahead") (fVar 0)) (fBlt vLen (aCons (f1 (vFl 15 "lines") (fVar 0)) aNil)))) sNever sNil)
    (sSeq (sAsg (.tp [(.nm 2), (.nm 3)]) (fCl 2 F_fitted (aCons (f2 vIx (f1 (vFl 15 "lines") (fVar 0)) (f1 (vFl 15 "ahead") (fVar 0))) (aCons (fVar 1) aNil))))
    (sSeq (sFldAug 15 "ahead" vAddI (fVar 0) (fC (.int 1)))
    (sSeq (sIf (fTst (f2 (vIs false) (fVar 2) (fC .non))) sNever sNil)
    (sRet (fVar 2))))))
/-- Reading_are_left: slots self 0 -/
noncomputable def m_Reading_are_left : Fs :=
    (sRet (f2 vLt (f1 (vFl 15 "ahead") (fVar 0)) (fBlt vLen (aCons (f1 (vFl 15 "lines") (fVar 0)) aNil))))
/-- Reading_take_ring_behind: slots self 0 head 1 word 2 found 3 value 4 -/
noncomputable def m_Reading_take_ring_behind : Fs :=
    (sSeq (sAsg (.nm 2) (f2 vIx (fMt 15 "take_row" 2 F_Reading_take_row (fVar 0) (aCons (fTup (aCons (fC (.glo 4)) aNil)) aNil)) (fC (.int 1))))
    (sSeq (sPar [3, 4] (aCons (fAlloc (lDisp aNil)) (aCons (fMt 15 "take_row" 2 F_Reading_take_row (fVar 0) (aCons (fTup (aCons (fC (.glo 5)) (aCons (fC (.glo 13)) aNil))) aNil)) aNil)))
    (sSeq (loopW (fTst (f2 vEq (f2 vIx (fVar 4) (fC (.int 0))) (fC (.str [98, 105, 110])))) (sSeq (sDrop (fBm "list" vAppend (fVar 3) (aCons (fSl (fVar 4) (oSome (fC (.int 1))) oNone) aNil)))
    (sAsg (.nm 4) (fMt 15 "take_row" 2 F_Reading_take_row (fVar 0) (aCons (fTup (aCons (fC (.glo 5)) (aCons (fC (.glo 13)) aNil))) aNil)))) fuel)
    (sRet (fTup (aCons (f2 vIx (fVar 1) (fC (.int 1))) (aCons (fVar 2) (aCons (fBlt vTuple (aCons (fVar 3) aNil)) aNil))))))))
/-- Reading_take_rows_behind: slots self 0 head 1 shape 2 last 3 rows 4 found 5 value 6 row 7 -/
noncomputable def m_Reading_take_rows_behind : Fs :=
    (sSeq (sPar [5, 6] (aCons (fAlloc (lDisp (aCons (fSl (fMt 15 "take_row" 2 F_Reading_take_row (fVar 0) (aCons (fTup (aCons (fVar 2) aNil)) aNil)) (oSome (fC (.int 1))) oNone) aNil))) (aCons (fMt 15 "take_row" 2 F_Reading_take_row (fVar 0) (aCons (fTup (aCons (fVar 2) (aCons (fC (.glo 11)) (aCons (fC (.glo 12)) aNil)))) aNil)) aNil)))
    (sSeq (loopW (fTst (f2 vNotIn (f2 vIx (fVar 6) (fC (.int 0))) (fTup (aCons (fC (.str [108, 97, 115, 116])) (aCons (fC (.str [99, 117, 116, 115])) aNil))))) (sSeq (sDrop (fBm "list" vAppend (fVar 5) (aCons (fSl (fVar 6) (oSome (fC (.int 1))) oNone) aNil)))
    (sAsg (.nm 6) (fMt 15 "take_row" 2 F_Reading_take_row (fVar 0) (aCons (fTup (aCons (fVar 2) (aCons (fC (.glo 11)) (aCons (fC (.glo 12)) aNil)))) aNil)))) fuel)
    (sSeq (sAsg (.nm 3) (fC .non))
    (sSeq (sIf (fTst (f2 vEq (f2 vIx (fVar 6) (fC (.int 0))) (fC (.str [108, 97, 115, 116])))) (sPar [3, 6] (aCons (f2 vIx (fVar 6) (fC (.int 1))) (aCons (fMt 15 "take_row" 2 F_Reading_take_row (fVar 0) (aCons (fTup (aCons (fC (.glo 12)) aNil)) aNil)) aNil))) sNil)
    (sSeq (sDrop (fMt 15 "take_row" 2 F_Reading_take_row (fVar 0) (aCons (fTup (aCons (fC (.glo 13)) aNil)) aNil)))
    (sSeq (sAsg (.nm 4) (fIf (fTst (f2 vEq (f2 vIx (fVar 1) (fC (.int 0))) (fC (.str [106, 111, 98])))) (fBlt vTuple (aCons (fVar 5) aNil)) (fBlt vTuple (aCons (fLst (lComp (iAny (fVar 5)) (.nm 7) fYes (f2 vIx (fVar 7) (fC (.int 0))) [7])) aNil))))
    (sRet (fTup (aCons (f2 vIx (fVar 1) (fC (.int 1))) (aCons (f2 vIx (fVar 1) (fC (.int 2))) (aCons (fVar 4) (aCons (fVar 3) (aCons (f2 vIx (fVar 6) (fC (.int 1))) aNil)))))))))))))
end K29
namespace K29
open PySem L2 Mini
theorem scanF_set {f : SF} {m : Sto} {s : Nat} {t : List Nat} {a a' : Nat} {g g' : Bool} {ys : List PV} {v : PV} (hs : s < m.length) (hl : t.length ≤ cap) (hf : f t a g ys = some (v, a', g')) :
    scanF f (.ref s :: ys) (m.set s (scO t a g)) = some (v, m.set s (scO t a' g')) := by
  rw [scanF_run (List.getElem?_set_self hs) hl hf, List.set_set]
theorem ins_run {m : Sto} {s : Nat} (hs : s < m.length) (t : List Nat) (a : Nat) (g : Bool) : insOf (.ref s) (m.set s (scO t a g)) = some (s, 1, [("text", .str t), ("at", .int (a : Nat)), ("good", .bl g)]) := by
  simp [List.getElem?_set_self hs, scO]
theorem word_run {m : Sto} {s : Nat} (hs : s < m.length) {t : List Nat} (hl : t.length ≤ cap) (a : Nat) (g : Bool) (w : List Nat) : F_Scan_take_word [.ref s, .str w] (m.set s (scO t a g)) = some (.non, m.set s (scO t (wordS t w a g).1 (wordS t w a g).2)) := scanF_set hs hl rfl
theorem name_run {m : Sto} {s : Nat} (hs : s < m.length) {t : List Nat} (hl : t.length ≤ cap) (a : Nat) (g : Bool) : F_Scan_take_name [.ref s] (m.set s (scO t a g)) = some (.str (nameS t a g).1, m.set s (scO t (nameS t a g).2.1 (nameS t a g).2.2)) := scanF_set hs hl rfl
theorem count_run {m : Sto} {s : Nat} (hs : s < m.length) {t : List Nat} (hl : t.length ≤ cap) (a : Nat) (g : Bool) (most : Int) : F_Scan_take_count [.ref s, .int most] (m.set s (scO t a g)) = some ((countS t a g most).1, m.set s (scO t (countS t a g most).2.1 (countS t a g most).2.2)) := scanF_set hs hl rfl
theorem signs_run {m : Sto} {s : Nat} (hs : s < m.length) {t : List Nat} (hl : t.length ≤ cap) (a : Nat) (g : Bool) (z : List Nat) (least : Int) (most : Nat) : F_Scan_take_signs [.ref s, .str z, .int least, .int most] (m.set s (scO t a g)) =
    some (.str ((t.drop a).take (signsN t z most a g)), m.set s (scO t (a + signsN t z most a g) (g && decide (least ≤ signsN t z most a g)))) := scanF_set hs hl (by simp)
theorem head_run {m : Sto} {s : Nat} (hs : s < m.length) {t : List Nat} (hl : t.length ≤ cap) (a : Nat) (g : Bool) (w : List Nat) (hw : w.length ≤ cap) : F_take_head [.ref s, .str w] (m.set s (scO t a g)) = some ((sh_head w t a g).1, m.set s (scO t (sh_head w t a g).2.1 (sh_head w t a g).2.2)) := scanF_set hs hl (by simp [hw])
theorem end_run {m : Sto} {s : Nat} (hs : s < m.length) {t : List Nat} (hl : t.length ≤ cap) (a : Nat) (g : Bool) : F_Scan_take_end [.ref s] (m.set s (scO t a g)) = some (.non, m.set s (scO t a (g && decide (a = t.length)))) := scanF_set hs hl rfl
theorem shF_run {f : Sh} {m : Sto} {s : Nat} (hs : s < m.length) {t : List Nat} (hl : t.length ≤ cap) (a : Nat) (g : Bool) : shF f [.ref s] (m.set s (scO t a g)) = some ((f t a g).1, m.set s (scO t (f t a g).2.1 (f t a g).2.2)) := scanF_set hs hl rfl
theorem Sim.shape {N : Nat} {b : Fs} {f : Sh} (hp : ∀ t a g, pure? deepest (f t a g).1 = true)
    (h : ∀ (s : Nat) (t : List Nat) (a : Nat) (g : Bool) (m : Sto), s < m.length → t.length ≤ cap → b (startE N [.ref s]) (m.set s (scO t a g)) = some (.ok (.ret (f t a g).1), m.set s (scO t (f t a g).2.1 (f t a g).2.2))) : Sim N 1 b (shF f) := Sim.scan fun s t a g ys m v a' g' hl hm hs ht hf => by
  split at hf
  · simp only [Option.some.injEq] at hf
    have e1 : v = (f t a g).1 := by rw [hf]
    have e2 : a' = (f t a g).2.1 := by rw [hf]
    have e3 : g' = (f t a g).2.2 := by rw [hf]
    subst e1 e2 e3
    have := h s t a g m hs ht
    rw [set_same hm] at this
    exact ⟨hp _ _ _, _, this, .inl rfl⟩
  · cases hf
theorem tup_small {n : Nat} (h : n ≤ 5) : n ≤ sizeLine := Nat.le_trans h (by decide)
theorem sim_take_ring : Sim 1 1 m_take_ring F_take_ring := Sim.shape (fun _ _ _ => rfl) fun s t a g m hs ht => by
  simp [m_take_ring, startE, ↓ins_run hs, word_run hs ht, name_run hs ht, List.lookup, sh_ring, wRing, sR, tup_small]
theorem sim_take_cells : Sim 1 1 m_take_cells F_take_cells := Sim.shape (fun _ _ _ => rfl) fun s t a g m hs ht => by
  have sr := @signs_run m s hs t ht
  have sr' : ∀ a g, F_Scan_take_signs [.ref s, .str [97, 98, 99], .int 2, .int 12] (m.set s (scO t a g)) = _ := fun a g => sr a g [97, 98, 99] 2 12
  simp [m_take_cells, startE, ↓ins_run hs, word_run hs ht, sr', List.lookup, sh_cells, wCells, sCells, tup_small, c_MARKS, c_LEAST_CELLS, c_MOST_CELLS]
  rfl
theorem sim_take_bin : Sim 2 1 m_take_bin F_take_bin := Sim.shape (fun _ _ _ => rfl) fun s t a g m hs ht => by
  simp [m_take_bin, startE, ↓ins_run hs, word_run hs ht, name_run hs ht, count_run hs ht, List.lookup, sh_bin, wBin, wAt, sBin, tup_small, c_MOST_CELLS]
theorem sim_take_job : Sim 1 1 m_take_job F_take_job := Sim.shape (fun _ _ _ => rfl) fun s t a g m hs ht => by
  have h := head_run hs ht
  have h3 : ([106, 111, 98] : List Nat).length ≤ cap := by decide
  simp [m_take_job, startE, h _ _ _ h3, sJ]
theorem sim_take_day : Sim 1 1 m_take_day F_take_day := Sim.shape (fun _ _ _ => rfl) fun s t a g m hs ht => by
  have h := head_run hs ht
  have h3 : ([100, 97, 121] : List Nat).length ≤ cap := by decide
  simp [m_take_day, startE, h _ _ _ h3, sD]
theorem sim_take_carry : Sim 2 1 m_take_carry F_take_carry := Sim.shape (fun _ _ _ => rfl) fun s t a g m hs ht => by
  simp [m_take_carry, startE, ↓ins_run hs, word_run hs ht, name_run hs ht, count_run hs ht, List.lookup, sh_carry, wCarry, wTo, sCarry, tup_small]
theorem sim_take_do : Sim 1 1 m_take_do F_take_do := Sim.shape (fun _ _ _ => rfl) fun s t a g m hs ht => by
  simp [m_take_do, startE, ↓ins_run hs, word_run hs ht, name_run hs ht, List.lookup, sh_do, wDo, sDo, tup_small]
theorem sim_take_last : Sim 1 1 m_take_last F_take_last := Sim.shape (fun _ _ _ => rfl) fun s t a g m hs ht => by
  simp [m_take_last, startE, ↓ins_run hs, word_run hs ht, count_run hs ht, List.lookup, sh_last, wLast, sLast, tup_small, c_MOST_CELLS]
theorem sim_take_cuts : Sim 1 1 m_take_cuts F_take_cuts := Sim.shape (fun _ _ _ => rfl) fun s t a g m hs ht => by
  simp [m_take_cuts, startE, ↓ins_run hs, word_run hs ht, count_run hs ht, List.lookup, sh_cuts, wCuts, sCuts, tup_small, c_MOST_CUTS]
theorem sim_take_close : Sim 1 1 m_take_close F_take_close := Sim.shape (fun _ _ _ => rfl) fun s t a g m hs ht => by
  simp [m_take_close, startE, ↓ins_run hs, word_run hs ht, List.lookup, sh_close, sEnd, tup_small]
theorem sim_take_head : Sim 3 2 m_take_head F_take_head := Sim.scan fun s t a g ys m v a' g' hl hm hs ht hf => by
  split at hf
  · rename_i w
    split at hf
    · rename_i hw
      simp only [Option.some.injEq] at hf
      have e1 : v = (sh_head w t a g).1 := by rw [hf]
      have e2 : a' = (sh_head w t a g).2.1 := by rw [hf]
      have e3 : g' = (sh_head w t a g).2.2 := by rw [hf]
      subst e1 e2 e3
      refine ⟨rfl, _, ?_, .inl rfl⟩
      have h1 : w.length ≤ sizeLine := Nat.le_trans hw cap_line
      have h2 : w.length + 1 ≤ sizeLine := Nat.le_trans (Nat.succ_le_succ hw) (by decide)
      have e := set_same hm
      conv => lhs; rw [← e]
      simp [m_take_head, startE, ↓ins_run hs, word_run hs ht, name_run hs ht, List.lookup, sh_head, wOn, tup_small, h1, h2]
    · cases hf
  · cases hf
theorem set_last (m : Sto) (o o' : Ob) : (m ++ [o]).set m.length o' = m ++ [o'] := by
  rw [List.set_append_right _ _ (Nat.le_refl _)]
  simp
theorem init_run (m : Sto) (t : List Nat) : F_Scan_init [.ref m.length, .str t] (m ++ [Ob.ins 1 []]) = some (.non, (m ++ [Ob.ins 1 []]).set m.length (scO t 0 true)) := by
  simp [F_Scan_init]
def bodyF : Fs := (sSeq (sAsg (.nm 4) (fMk 1 2 F_Scan_init (aCons (fVar 0) aNil)))
    (sSeq (sAsg (.nm 5) (fCallV 3 tbl_shapes (aCons (fVar 4) aNil)))
    (sSeq (sDrop (fMt 1 "take_end" 1 F_Scan_take_end (fVar 4) aNil))
    (sSeq (sIf (fTst (f1 (vFl 1 "good") (fVar 4))) (sRet (fTup (aCons (fVar 5) (aCons (fC (.int 0)) aNil)))) sNil)
    (sAsg (.nm 2) (fBlt vMax (aCons (fVar 2) (aCons (f1 (vFl 1 "at") (fVar 4)) aNil))))))))
theorem fit_turn (t : List Nat) (ht : t.length ≤ cap) (xs : PV) (r : Nat) (j : Nat) (f : Sh) (hj : shOf j = some f) (x4 x5 : Option PV) (m : Sto) :
    bodyF [some (.str t), some xs, some (.int (r : Nat)), some (.glo j), x4, x5] m = if ((f t 0 true).2.2 && decide ((f t 0 true).2.1 = t.length)) = true
      then some (.ok (.ret (.tup [(f t 0 true).1, .int 0])), m ++ [scO t (f t 0 true).2.1 true])
      else some (.ok (.next [some (.str t), some xs, some (.int ((max r (f t 0 true).2.1 : Nat) : Int)), some (.glo j), some (.ref m.length), some (f t 0 true).1]), m ++ [scO t (f t 0 true).2.1 false]) := by
  have hT : tbl_shapes j = some (1, shF f) := by simp [tbl_shapes, hj]
  have hs : m.length < (m ++ [Ob.ins 1 []]).length := by simp
  have hi := init_run m t
  have h1 := shF_run hs ht (f := f) 0 true
  have h2 := end_run hs ht (f t 0 true).2.1 (f t 0 true).2.2
  have hin := ins_run hs t
  generalize hM : m ++ [Ob.ins 1 []] = M at *
  have sl : ∀ o, M.set m.length o = m ++ [o] := fun o => by rw [← hM]; exact set_last m _ o
  simp only [sl] at hi h1 h2 hin
  obtain ⟨q, hq⟩ : ∃ q, f t 0 true = q := ⟨_, rfl⟩
  rw [hq] at h1 h2 ⊢
  by_cases hg : (q.2.2 && decide (q.2.1 = t.length)) = true
  · rw [hg] at h2
    rw [if_pos hg]
    simp [bodyF, hM, hi, hT, h1, ↓hin, h2, List.lookup, tup_small]
  · rw [if_neg hg]
    have hg' : (q.2.2 && decide (q.2.1 = t.length)) = false := by simpa using hg
    rw [hg'] at h2
    by_cases hm : r < q.2.1
    · have e : max r q.2.1 = q.2.1 := by omega
      simp [bodyF, hM, hi, hT, h1, ↓hin, h2, List.lookup, tup_small, hm, e]
    · have e : max r q.2.1 = r := by omega
      simp [bodyF, hM, hi, hT, h1, ↓hin, h2, List.lookup, tup_small, hm, e]
theorem fit_loop (t : List Nat) (ht : t.length ≤ cap) (xs : PV) (src : Src) (hsrc : ∀ m, src.ok m) : ∀ (js : List PV) (r : Nat) (x3 x4 x5 : Option PV) (m : Sto) (v : PV) (r' : Nat), fitL t js r = some (v, r') →
    ∃ fl z, loopF src (.nm 3) bodyF js [some (.str t), some xs, some (.int (r : Nat)), x3, x4, x5] m = some (.ok fl, m ++ z) ∧ (fl = .ret (.tup [v, .int (r' : Nat)]) ∨ (v = .non ∧ ∃ x3 x4 x5, fl = .next [some (.str t), some xs, some (.int (r' : Nat)), x3, x4, x5]))
  | [], r, x3, x4, x5, m, v, r', h => by
    simp only [fitL, Option.some.injEq, Prod.mk.injEq] at h
    obtain ⟨rfl, rfl⟩ := h
    exact ⟨_, [], by rw [loopF_0 (hsrc m), List.append_nil], .inr ⟨rfl, _, _, _, rfl⟩⟩
  | .glo j :: js, r, x3, x4, x5, m, v, r', h => by
    unfold fitL at h
    split at h
    · rename_i f hf
      have tn := fit_turn t ht xs r j f hf x4 x5 m
      rw [loopF_e (hsrc m)]
      simp only [e_put, List.set_cons_succ, List.set_cons_zero, tn]
      simp only [] at h
      split at h
      · rename_i hg
        rw [if_pos hg]
        simp only [Option.some.injEq, Prod.mk.injEq] at h
        obtain ⟨rfl, rfl⟩ := h
        exact ⟨_, _, rfl, .inl rfl⟩
      · rename_i hg
        rw [if_neg hg]
        obtain ⟨fl, z, h1, h2⟩ := fit_loop t ht xs src hsrc js _ (some (.glo j)) (some (.ref m.length)) (some (f t 0 true).1) (m ++ [scO t (f t 0 true).2.1 false]) v r' h
        exact ⟨fl, [scO t (f t 0 true).2.1 false] ++ z, by rw [← List.append_assoc]; exact h1, h2⟩
    · cases h
  | .non :: js, r, x3, x4, x5, m, v, r', h => by simp [fitL] at h
  | .bl _ :: js, r, x3, x4, x5, m, v, r', h => by simp [fitL] at h
  | .int _ :: js, r, x3, x4, x5, m, v, r', h => by simp [fitL] at h
  | .str _ :: js, r, x3, x4, x5, m, v, r', h => by simp [fitL] at h
  | .tup _ :: js, r, x3, x4, x5, m, v, r', h => by simp [fitL] at h
  | .lst _ :: js, r, x3, x4, x5, m, v, r', h => by simp [fitL] at h
  | .dct _ _ :: js, r, x3, x4, x5, m, v, r', h => by simp [fitL] at h
  | .ref _ :: js, r, x3, x4, x5, m, v, r', h => by simp [fitL] at h
  | .ty _ :: js, r, x3, x4, x5, m, v, r', h => by simp [fitL] at h
theorem shOf_pure {j : Nat} {f : Sh} (h : shOf j = some f) (t : List Nat) (a : Nat) (g : Bool) : pure? 3 (f t a g).1 = true ∧ ∃ w rest, (f t a g).1 = .tup (.str w :: rest) := by
  unfold shOf at h
  split at h <;> first | (cases h; exact ⟨rfl, _, _, rfl⟩) | cases h
theorem fitL_pure {t : List Nat} : ∀ {js : List PV} {r : Nat} {v : PV} {r' : Nat}, fitL t js r = some (v, r') → pure? 3 v = true ∧ (v = .non ∨ ∃ w rest, v = .tup (.str w :: rest))
  | [], r, v, r', h => by
    simp only [fitL, Option.some.injEq, Prod.mk.injEq] at h
    obtain ⟨rfl, rfl⟩ := h
    exact ⟨rfl, .inl rfl⟩
  | .glo j :: js, r, v, r', h => by
    unfold fitL at h
    split at h
    · rename_i f hf
      simp only [] at h
      split at h
      · simp only [Option.some.injEq, Prod.mk.injEq] at h
        obtain ⟨rfl, rfl⟩ := h
        obtain ⟨h1, h2⟩ := shOf_pure hf t 0 true
        exact ⟨h1, .inr h2⟩
      · exact fitL_pure h
    · cases h
  | .non :: js, r, v, r', h => by simp [fitL] at h
  | .bl _ :: js, r, v, r', h => by simp [fitL] at h
  | .int _ :: js, r, v, r', h => by simp [fitL] at h
  | .str _ :: js, r, v, r', h => by simp [fitL] at h
  | .tup _ :: js, r, v, r', h => by simp [fitL] at h
  | .lst _ :: js, r, v, r', h => by simp [fitL] at h
  | .dct _ _ :: js, r, v, r', h => by simp [fitL] at h
  | .ref _ :: js, r, v, r', h => by simp [fitL] at h
  | .ty _ :: js, r, v, r', h => by simp [fitL] at h
theorem app_cmp (m z : Sto) : Cmp m (m ++ z) m.length := ⟨Nat.le_refl _, fun i o hi h => .inl (by rw [List.getElem?_append_left hi] at h; exact h)⟩
mutual
theorem pure_up : ∀ {k l : Nat} {x : PV}, k ≤ l → pure? k x = true → pure? l x = true
  | k, l, .non, _, _ => by cases l <;> simp [pure?]
  | k, l, .bl _, _, _ => by cases l <;> simp [pure?]
  | k, l, .int _, _, _ => by cases l <;> simp [pure?]
  | k, l, .str _, _, _ => by cases l <;> simp [pure?]
  | k, l, .glo _, _, _ => by cases l <;> simp [pure?]
  | k, l, .ty _, _, _ => by cases l <;> simp [pure?]
  | 0, l, .tup xs, _, h => by simp [pure?] at h
  | 0, l, .lst xs, _, h => by simp [pure?] at h
  | 0, l, .dct _ xs, _, h => by simp [pure?] at h
  | 0, l, .ref xs, _, h => by simp [pure?] at h
  | k + 1, l, .ref xs, _, h => by simp [pure?] at h
  | k + 1, 0, .tup xs, hk, h => by omega
  | k + 1, 0, .lst xs, hk, h => by omega
  | k + 1, 0, .dct _ xs, hk, h => by omega
  | k + 1, l + 1, .tup xs, hk, h => by simp only [pure?] at h ⊢; exact pures_up (by omega) h
  | k + 1, l + 1, .lst xs, hk, h => by simp only [pure?] at h ⊢; exact pures_up (by omega) h
  | k + 1, l + 1, .dct _ xs, hk, h => by simp only [pure?] at h ⊢; exact pures_up (by omega) h
theorem pures_up : ∀ {k l : Nat} {xs : List PV}, k ≤ l → pures? k xs = true → pures? l xs = true
  | k, l, [], _, _ => by simp [pures?]
  | k, l, x :: xs, hk, h => by
    simp only [pures?, Bool.and_eq_true] at h ⊢
    exact ⟨pure_up hk h.1, pures_up hk h.2⟩
end
theorem sim_fitted : Sim 6 2 m_fitted F_fitted := fun xs m x m2 hl hF => by
  unfold F_fitted at hF
  split at hF
  · rename_i t js
    split at hF
    · rename_i ht
      split at hF
      · rename_i v r' hv
        simp only [Option.some.injEq, Prod.mk.injEq] at hF
        obtain ⟨rfl, rfl⟩ := hF
        obtain ⟨fl, z, h1, h2⟩ := fit_loop t ht (.tup js) ⟨js, []⟩ (fun m => ok_nil) js 0 none none none m v r' hv
        rw [show ((0 : Nat) : Int) = 0 from rfl] at h1
        have hp := (fitL_pure hv).1
        refine ⟨.ret (.tup [v, .int (r' : Nat)]), m ++ z, _, m.length, ?_, .inl rfl, by simp, app_cmp m z, frz_pure _ _ _ _ ?_⟩
        · rcases h2 with rfl | ⟨rfl, x3, x4, x5, rfl⟩
          · simp only [bodyF] at h1
            simp [m_fitted, startE, h1]
          · simp only [bodyF] at h1
            simp [m_fitted, startE, h1, tup_small]
        · show pures? 49 [v, .int (r' : Nat)] = true
          simp only [pures?, pure?, Bool.and_true]
          exact pure_up (by decide) hp
      · cases hF
    · cases hF
  · cases hF
end K29
namespace K29
open PySem L2 Mini
theorem rdO_below (n : Nat) (L : List (List Nat)) (k : Nat) : obBelow n (rdO L k) = true := by
  have : ∀ L : List (List Nat), belows n (L.map PV.str) = true := fun L => by
    induction L with
    | nil => simp [belows]
    | cons l L ih => simp [belows, below, ih]
  simp [rdO, obBelow, belows, below, this]
theorem rdF_set {f : RF} {m : Sto} {r : Nat} {L : List (List Nat)} {k k' : Nat} {ys : List PV} {v : PV} (hs : r < m.length) (hl : L.length ≤ 100000) (hf : f L k ys = some (v, k')) :
    rdF f (.ref r :: ys) (m.set r (rdO L k)) = some (v, m.set r (rdO L k')) := by
  unfold rdF
  simp [rdOf_mk (List.getElem?_set_self hs) hl, hf, List.set_set]
theorem rins_run {m : Sto} {s : Nat} (hs : s < m.length) (L : List (List Nat)) (k : Nat) : insOf (.ref s) (m.set s (rdO L k)) = some (s, 15, [("lines", .lst (L.map PV.str)), ("ahead", .int (k : Nat))]) := by
  simp [List.getElem?_set_self hs, rdO]
/-- a method of a reading: what it makes is thrown away -/
theorem Sim.rd {N n : Nat} {b : Fs} {f : RF} (h : ∀ (r : Nat) (L : List (List Nat)) (k : Nat) (ys : List PV) (m : Sto) (v : PV) (k' : Nat), ys.length + 1 = n → r < m.length → L.length ≤ 100000 → f L k ys = some (v, k') →
    ∃ z v', b (startE N (.ref r :: ys)) (m.set r (rdO L k)) = some (.ok (.ret v'), (m.set r (rdO L k')) ++ z) ∧ frz m.length (m.set r (rdO L k') ++ z) deepest v' = some v) : Sim N n b (rdF f) := fun xs m x m2 hl hF => by
  unfold rdF at hF
  split at hF
  · rename_i x0 ys
    split at hF
    · rename_i r L k hs
      obtain ⟨rfl, hm, hL⟩ := rdOf_is hs
      split at hF
      · rename_i v k' hf
        simp only [Option.some.injEq, Prod.mk.injEq] at hF
        obtain ⟨rfl, rfl⟩ := hF
        have hr := (List.getElem?_eq_some_iff.mp hm).1
        obtain ⟨z, v', h1, h2⟩ := h r L k ys m v k' hl hr hL hf
        rw [set_same hm] at h1
        refine ⟨.ret v', _, v', m.length, h1, .inl rfl, ?_, ⟨Nat.le_refl _, fun i o hi ho => ?_⟩, h2⟩
        · rw [List.take_left' (by simp)]
        · rw [List.getElem?_append_left (by simpa using hi)] at ho
          exact (set_cmp (m := m) (s := r) (Nat.le_refl _) (rdO_below _ L k')).old i o hi ho
      · cases hF
    · cases hF
  · cases hF
theorem spl_length (sep : List Nat) : ∀ (t : List Nat) (n : Nat) (acc : List Nat), (TL.spl sep n acc t).length ≤ t.length + 1
  | [], n, acc => by simp [TL.spl]
  | c :: t, 0, acc => by
    have h1 := spl_length sep t (sep.length - 1) []
    have h2 := spl_length sep t 0 (acc ++ [c])
    simp only [TL.spl]
    split <;> simp only [List.length_cons] <;> omega
  | c :: t, n + 1, acc => by
    have h1 := spl_length sep t n acc
    simp only [TL.spl, List.length_cons]
    omega
theorem sim_Reading_init : Sim 2 2 m_Reading_init F_Reading_init := fun xs m x m2 hl hF => by
  unfold F_Reading_init at hF
  split at hF
  · rename_i s t
    split at hF
    · rename_i c hm
      split at hF
      · rename_i hc
        obtain ⟨rfl, ht⟩ := hc
        cases hF
        have hs : s < m.length := (List.getElem?_eq_some_iff.mp hm).1
        refine ⟨.next [some (.ref s), some (.str t)], m.set s (rdO (TL.spl [10] 0 [] t) 0), .non, m.length, ?_, .inr ⟨⟨_, rfl⟩, rfl⟩, (List.take_of_length_le (by simp)).symm, set_cmp (Nat.le_refl _) (rdO_below _ _ 0), by simp⟩
        have hset : ∀ o, (m.set s o)[s]? = some o := fun o => List.getElem?_set_self hs
        have h1 : t.length + 2 ≤ sizeLine := Nat.le_trans (Nat.add_le_add_right ht 2) (by decide)
        have hsp : ∀ m, vSplit (.str t) [.str [10]] m = some (.lst ((TL.spl [10] 0 [] t).map PV.str), m) := fun m => by
          simp [vSplit, h1]
        simp [m_Reading_init, startE, hm, hset, putP, rdO, chkT, hsp]
      · cases hF
    · cases hF
  · cases hF
theorem rowS_is {L : List (List Nat)} {k : Nat} {js : List PV} {v : PV} {k' : Nat} (h : rowS L k js = some (v, k')) : ∃ l xs r, L[k]? = some l ∧ k < L.length ∧ l.length ≤ cap ∧ fitL l js 0 = some (.tup xs, r) ∧ v = .tup xs ∧ k' = k + 1 := by
  unfold rowS at h
  split at h
  · rename_i l hl
    split at h
    · rename_i hc
      split at h
      · rename_i xs r hf
        simp only [Option.some.injEq, Prod.mk.injEq] at h
        exact ⟨l, xs, r, hl, (List.getElem?_eq_some_iff.mp hl).1, hc, hf, h.1.symm, h.2.symm⟩
      · cases h
    · cases h
  · cases h
theorem rowS_pure {L : List (List Nat)} {k : Nat} {js : List PV} {v : PV} {k' : Nat} (h : rowS L k js = some (v, k')) : pure? 3 v = true := by
  obtain ⟨l, xs, r, _, _, _, hf, rfl, _⟩ := rowS_is h
  exact (fitL_pure hf).1
theorem sim_Reading_take_row : Sim 4 2 m_Reading_take_row F_Reading_take_row := Sim.rd fun r L k ys m v k' hl hr hL hf => by
  split at hf
  · rename_i js
    obtain ⟨l, xs, r', hlk, hk, hc, hft, rfl, rfl⟩ := rowS_is hf
    refine ⟨[], .tup xs, ?_, frz_pure _ _ _ _ (pure_up (by decide) (rowS_pure hf))⟩
    have hfit : ∀ m, F_fitted [.str l, .tup js] m = some (.tup [.tup xs, .int (r' : Nat)], m) := fun m => by simp [F_fitted, hc, hft]
    have hat : atI (L.map PV.str) (k : Int) = some (.str l) := by rw [at_nat]; simp [hlk]
    have hne : ¬ k = L.length := by omega
    have hset : ∀ o, (m.set r o)[r]? = some o := fun o => List.getElem?_set_self hr
    simp [m_Reading_take_row, startE, rdO, hset, List.lookup, hne, hat, hfit, putP, vIs, Mini.isNon, Int.natCast_inj]
  · cases hf
theorem sim_Reading_are_left : Sim 1 1 m_Reading_are_left F_Reading_are_left := Sim.pure fun xs m x m2 hl hF => by
  unfold F_Reading_are_left at hF
  split at hF
  · split at hF
    · rename_i r L k hs
      obtain ⟨rfl, hm, hL⟩ := rdOf_is hs
      simp only [Option.some.injEq, Prod.mk.injEq] at hF
      obtain ⟨rfl, rfl⟩ := hF
      refine ⟨rfl, ?_, rfl⟩
      simp [m_Reading_are_left, startE, hm, rdO, List.lookup]
    · cases hF
  · cases hF
theorem row_run {m : Sto} {r : Nat} (hs : r < m.length) {L : List (List Nat)} (hl : L.length ≤ 100000) {k k' : Nat} {js : List PV} {v : PV} (h : rowS L k js = some (v, k')) (z : Sto) :
    F_Reading_take_row [.ref r, .tup js] (m.set r (rdO L k) ++ z) = some (v, m.set r (rdO L k') ++ z) := by
  unfold F_Reading_take_row rdF
  have hg : (m.set r (rdO L k) ++ z)[r]? = some (rdO L k) := by rw [List.getElem?_append_left (by simpa using hs), List.getElem?_set_self hs]
  simp only [rdOf_mk hg hl, h]
  rw [List.set_append_left _ _ (by simpa using hs), List.set_set]
theorem row_run0 {m : Sto} {r : Nat} (hs : r < m.length) {L : List (List Nat)} (hl : L.length ≤ 100000) {k k' : Nat} {js : List PV} {v : PV} (h : rowS L k js = some (v, k')) :
    F_Reading_take_row [.ref r, .tup js] (m.set r (rdO L k)) = some (v, m.set r (rdO L k')) := by
  have := row_run hs hl h []
  simpa using this
theorem rins_runz {m : Sto} {s : Nat} (hs : s < m.length) (L : List (List Nat)) (k : Nat) (z : Sto) : insOf (.ref s) (m.set s (rdO L k) ++ z) = some (s, 15, [("lines", .lst (L.map PV.str)), ("ahead", .int (k : Nat))]) := by
  have hg : (m.set s (rdO L k) ++ z)[s]? = some (rdO L k) := by rw [List.getElem?_append_left (by simpa using hs), List.getElem?_set_self hs]
  rw [e_insOf, hg]
  rfl
theorem app_run {M : Sto} {n : Nat} (hn : n = M.length) {acc : List PV} (hl : acc.length < sizeLine) (y : PV) : vAppend (.ref n) [y] (M ++ [.lst acc]) = some (.non, M ++ [.lst (acc ++ [y])]) := by
  subst hn
  rw [v_append _ acc y _ (by simp) hl, List.set_append_right _ _ (Nat.le_refl _)]
  simp
theorem chk_run {M : Sto} {n : Nat} (hn : n = M.length) (acc : List PV) : chkT "list" (.ref n) (M ++ [.lst acc]) = true := by
  subst hn
  simp [chkT]
theorem tup_run {M : Sto} {n : Nat} (hn : n = M.length) (acc : List PV) : vTuple [.ref n] (M ++ [.lst acc]) = some (.tup acc) := by
  subst hn
  simp
theorem at_0 {α : Type} (x : α) (xs : List α) : atI (x :: xs) 0 = some x := at_nat (x :: xs) 0
theorem at_1 {α : Type} (x y : α) (xs : List α) : atI (x :: y :: xs) 1 = some y := at_nat (x :: y :: xs) 1
theorem at_2 {α : Type} (x y z : α) (xs : List α) : atI (x :: y :: z :: xs) 2 = some z := at_nat (x :: y :: z :: xs) 2
theorem cut_1 {α : Type} (x : α) (xs : List α) : cutL (x :: xs) (some 1) none = xs := cutL_from (x :: xs) 1
theorem rowS_tup {L : List (List Nat)} {k : Nat} {js : List PV} {v : PV} {k' : Nat} (h : rowS L k js = some (v, k')) : ∃ w rest, v = .tup (.str w :: rest) := by
  obtain ⟨l, xs, r, _, _, _, hf, rfl, _⟩ := rowS_is h
  rcases (fitL_pure hf).2 with h | h
  · cases h
  · exact h
theorem manyS_is {L : List (List Nat)} {js : List PV} {go : List Nat → Bool} {n k : Nat} {acc : List PV} {res : List PV × List PV × Nat} (h : manyS L js go n k acc = some res) :
    ∃ n' w rest k', n = n' + 1 ∧ rowS L k js = some (.tup (.str w :: rest), k') ∧ (if go w then manyS L js go n' k' (acc ++ [.tup rest]) else some (acc, .str w :: rest, k')) = some res := by
  cases n with
  | zero => simp [manyS] at h
  | succ n =>
    unfold manyS at h
    split at h
    · rename_i w rest k' hr
      exact ⟨n, w, rest, k', rfl, hr, h⟩
    · cases h
theorem manyS_pure {L : List (List Nat)} {js : List PV} {go : List Nat → Bool} : ∀ {n k : Nat} {acc : List PV} {acc' v : List PV} {k' : Nat}, pures? 3 acc = true → manyS L js go n k acc = some (acc', v, k') → pures? 3 acc' = true ∧ pure? 3 (.tup v) = true
  | 0, k, acc, acc', v, k', _, h => by simp [manyS] at h
  | n + 1, k, acc, acc', v, k', hp, h => by
    obtain ⟨n', w, rest, k1, e, hr, h⟩ := manyS_is h
    cases e
    have pr := rowS_pure hr
    split at h
    · refine manyS_pure ?_ h
      have : ∀ xs, pures? 3 xs = true → pures? 3 (xs ++ [.tup rest]) = true := fun xs => by
        induction xs with
        | nil =>
          intro _
          simp only [pure?, pures?, Bool.and_eq_true] at pr
          simp [pure?, pures?, pr.2]
        | cons x xs ih =>
          intro hx
          simp only [pures?, Bool.and_eq_true] at hx
          simp [pures?, hx.1, ih hx.2]
      exact this acc hp
    · simp only [Option.some.injEq, Prod.mk.injEq] at h
      obtain ⟨rfl, rfl, rfl⟩ := h
      exact ⟨hp, pr⟩
def condR : Ft := (fTst (f2 vEq (f2 vIx (fVar 4) (fC (.int 0))) (fC (.str [98, 105, 110]))))
def bodyR : Fs := (sSeq (sDrop (fBm "list" vAppend (fVar 3) (aCons (fSl (fVar 4) (oSome (fC (.int 1))) oNone) aNil)))
    (sAsg (.nm 4) (fMt 15 "take_row" 2 F_Reading_take_row (fVar 0) (aCons (fTup (aCons (fC (.glo 5)) (aCons (fC (.glo 13)) aNil))) aNil))))
theorem ring_loop (r : Nat) (L : List (List Nat)) (hL : L.length ≤ 100000) (hd wd : PV) (m : Sto) (hr : r < m.length) : ∀ (n k : Nat) (w : List Nat) (rest acc acc' v' : List PV) (k' : Nat) (F : Nat), acc.length + n ≤ 200000 → n < F →
    (if decide (w = sBin) = true then manyS L [.glo 5, .glo 13] (fun w => decide (w = sBin)) n k (acc ++ [.tup rest]) else some (acc, .str w :: rest, k)) = some (acc', v', k') →
    loopW condR bodyR F [some (.ref r), some hd, some wd, some (.ref m.length), some (.tup (.str w :: rest))] (m.set r (rdO L k) ++ [.lst acc]) = some (.ok (.next [some (.ref r), some hd, some wd, some (.ref m.length), some (.tup v')]), m.set r (rdO L k') ++ [.lst acc']) := by
  intro n
  induction n with
  | zero =>
    intro k w rest acc acc' v' k' F ha hF h
    obtain ⟨F, rfl⟩ : ∃ F', F = F' + 1 := ⟨F - 1, by omega⟩
    split at h
    · simp [manyS] at h
    · rename_i hw
      simp only [Option.some.injEq, Prod.mk.injEq] at h
      obtain ⟨rfl, rfl, rfl⟩ := h
      have hw' : ¬ w = [98, 105, 110] := fun z => hw (decide_eq_true z)
      rw [loopW_e]
      simp [condR, at_0, hw']
  | succ n ih =>
    intro k w rest acc acc' v' k' F ha hF h
    obtain ⟨F, rfl⟩ : ∃ F', F = F' + 1 := ⟨F - 1, by omega⟩
    split at h
    · rename_i hw
      obtain ⟨n', w2, rest2, k2, e, hrow, h⟩ := manyS_is h
      cases e
      have hw' : w = [98, 105, 110] := of_decide_eq_true hw
      have := ih k2 w2 rest2 (acc ++ [.tup rest]) acc' v' k' F (by simp; omega) (by omega) h
      have ap := app_run (M := m.set r (rdO L k)) (n := m.length) (by simp) (acc := acc) (by have : sizeLine = 16777216 := rfl; omega) (.tup rest)
      have ck := chk_run (M := m.set r (rdO L k)) (n := m.length) (by simp) acc
      have rr := row_run hr hL hrow [.lst (acc ++ [.tup rest])]
      have ri := rins_runz hr L k [.lst (acc ++ [.tup rest])]
      rw [loopW_e]
      simp only [condR, bodyR] at this
      simp [condR, bodyR, at_0, hw', cut_1, ck, ap, ↓ri, rr, List.lookup, tup_small, this]
    · rename_i hw
      simp only [Option.some.injEq, Prod.mk.injEq] at h
      obtain ⟨rfl, rfl, rfl⟩ := h
      have hw' : ¬ w = [98, 105, 110] := fun z => hw (decide_eq_true z)
      rw [loopW_e]
      simp [condR, at_0, hw']
theorem sim_Reading_take_ring_behind : Sim 5 2 m_Reading_take_ring_behind F_Reading_take_ring_behind := Sim.rd fun r L k ys m v k' hl hr hL hf => by
  split at hf
  · rename_i w0 nm
    unfold ringS at hf
    split at hf
    · rename_i w1 w k1 hrow
      split at hf
      · rename_i bs vl k2 hmany
        simp only [Option.some.injEq, Prod.mk.injEq] at hf
        obtain ⟨rfl, rfl⟩ := hf
        have hp := (manyS_pure (by rfl) hmany).1
        obtain ⟨n', w2, rest2, k3, e, hrow2, h⟩ := manyS_is hmany
        cases e
        have lp := ring_loop r L hL (.tup [.str w0, .str nm]) (.str w) m hr L.length k3 w2 rest2 [] bs vl k2 fuel (by simp; omega) (by unfold fuel; omega) h
        refine ⟨[.lst bs], .tup [.str nm, .str w, .tup bs], ?_, frz_pure _ _ _ _ ?_⟩
        · have r1 := row_run0 hr hL hrow
          have r2 := row_run hr hL hrow2 [.lst []]
          have i1 := rins_run hr L k
          have vt := tup_run (M := m.set r (rdO L k2)) (n := m.length) (by simp) bs
          have i2 := rins_runz hr L k1 [.lst []]
          simp only [condR, bodyR] at lp
          simp [m_Reading_take_ring_behind, startE, ↓i1, r1, at_1, ↓i2, r2, List.lookup, tup_small, lp, ↓vt]
        · show pures? 49 [.str nm, .str w, .tup bs] = true
          simp only [pures?, pure?, Bool.and_true, Bool.true_and]
          exact pures_up (by decide) hp
      · cases hf
    · cases hf
  · cases hf
theorem in_two (w a b : List Nat) (m : Sto) : vNotIn (.str w) (.tup [.str a, .str b]) m = some (.bl (!decide (w ∈ [a, b]))) := notIn_strs w [a, b] m
def condB : Ft := (fTst (f2 vNotIn (f2 vIx (fVar 6) (fC (.int 0))) (fTup (aCons (fC (.str [108, 97, 115, 116])) (aCons (fC (.str [99, 117, 116, 115])) aNil)))))
def bodyB : Fs := (sSeq (sDrop (fBm "list" vAppend (fVar 5) (aCons (fSl (fVar 6) (oSome (fC (.int 1))) oNone) aNil)))
    (sAsg (.nm 6) (fMt 15 "take_row" 2 F_Reading_take_row (fVar 0) (aCons (fTup (aCons (fVar 2) (aCons (fC (.glo 11)) (aCons (fC (.glo 12)) aNil)))) aNil))))
theorem rows_loop (r : Nat) (L : List (List Nat)) (hL : L.length ≤ 100000) (hd : PV) (j : Nat) (m : Sto) (hr : r < m.length) : ∀ (n k : Nat) (w : List Nat) (rest acc acc' v' : List PV) (k' : Nat) (F : Nat), acc.length + n ≤ 200000 → n < F →
    (if (!decide (w ∈ [sLast, sCuts])) = true then manyS L [.glo j, .glo 11, .glo 12] (fun w => !decide (w ∈ [sLast, sCuts])) n k (acc ++ [.tup rest]) else some (acc, .str w :: rest, k)) = some (acc', v', k') →
    loopW condB bodyB F [some (.ref r), some hd, some (.glo j), none, none, some (.ref m.length), some (.tup (.str w :: rest)), none] (m.set r (rdO L k) ++ [.lst acc]) =
      some (.ok (.next [some (.ref r), some hd, some (.glo j), none, none, some (.ref m.length), some (.tup v'), none]), m.set r (rdO L k') ++ [.lst acc']) := by
  intro n
  induction n with
  | zero =>
    intro k w rest acc acc' v' k' F ha hF h
    obtain ⟨F, rfl⟩ : ∃ F', F = F' + 1 := ⟨F - 1, by omega⟩
    split at h
    · simp [manyS] at h
    · rename_i hw
      simp only [Option.some.injEq, Prod.mk.injEq] at h
      obtain ⟨rfl, rfl, rfl⟩ := h
      have hw' : (!decide (w ∈ [[108, 97, 115, 116], [99, 117, 116, 115]])) = false := Bool.eq_false_iff.mpr hw
      rw [loopW_e]
      simp only [condB, e_tst, e_2, e_var, e_C, e_tup, e_cons, e_nil, e_bind, List.getElem?_cons_succ, List.getElem?_cons_zero, v_ixT, at_0, e_up, List.length_cons, List.length_nil, tup_small (n := 0 + 1 + 1) (by decide), if_true, in_two, hw']
      rfl
  | succ n ih =>
    intro k w rest acc acc' v' k' F ha hF h
    obtain ⟨F, rfl⟩ : ∃ F', F = F' + 1 := ⟨F - 1, by omega⟩
    split at h
    · rename_i hw
      obtain ⟨n', w2, rest2, k2, e, hrow, h⟩ := manyS_is h
      cases e
      have hw' : (!decide (w ∈ [[108, 97, 115, 116], [99, 117, 116, 115]])) = true := hw
      have := ih k2 w2 rest2 (acc ++ [.tup rest]) acc' v' k' F (by simp; omega) (by omega) h
      have ap := app_run (M := m.set r (rdO L k)) (n := m.length) (by simp) (acc := acc) (by have : sizeLine = 16777216 := rfl; omega) (.tup rest)
      have ck := chk_run (M := m.set r (rdO L k)) (n := m.length) (by simp) acc
      have rr := row_run hr hL hrow [.lst (acc ++ [.tup rest])]
      have ri := rins_runz hr L k [.lst (acc ++ [.tup rest])]
      have i2 := fun m => in_two w [108, 97, 115, 116] [99, 117, 116, 115] m
      simp only [hw'] at i2
      rw [loopW_e]
      simp only [condB, bodyB] at this
      simp [condB, bodyB, at_0, i2, cut_1, ck, ap, ↓ri, rr, List.lookup, tup_small, this]
    · rename_i hw
      simp only [Option.some.injEq, Prod.mk.injEq] at h
      obtain ⟨rfl, rfl, rfl⟩ := h
      have hw' : (!decide (w ∈ [[108, 97, 115, 116], [99, 117, 116, 115]])) = false := Bool.eq_false_iff.mpr hw
      have i2 := fun m => in_two w [108, 97, 115, 116] [99, 117, 116, 115] m
      simp only [hw'] at i2
      rw [loopW_e]
      simp [condB, at_0, i2, tup_small]
theorem firsts_map : ∀ {rs fs : List PV}, firsts rs = some fs → (∀ x ∈ rs, ∃ y, (∃ ys, x = .tup (y :: ys))) ∧ fs = rs.map fun x => match x with | .tup (y :: _) => y | _ => .non
  | [], fs, h => by simp only [firsts, Option.some.injEq] at h; subst h; simp
  | .tup (x :: ys) :: r, fs, h => by
    simp only [firsts, Option.map_eq_some_iff] at h
    obtain ⟨fs', h, rfl⟩ := h
    obtain ⟨h1, h2⟩ := firsts_map h
    refine ⟨fun z hz => ?_, by simp [h2]⟩
    rcases List.mem_cons.mp hz with rfl | hz
    · exact ⟨_, _, rfl⟩
    · exact h1 z hz
  | .tup [] :: r, fs, h => by simp [firsts] at h
  | .non :: js, _, h => by simp [firsts] at h
  | .bl _ :: js, _, h => by simp [firsts] at h
  | .int _ :: js, _, h => by simp [firsts] at h
  | .str _ :: js, _, h => by simp [firsts] at h
  | .glo _ :: js, _, h => by simp [firsts] at h
  | .lst _ :: js, _, h => by simp [firsts] at h
  | .dct _ _ :: js, _, h => by simp [firsts] at h
  | .ref _ :: js, _, h => by simp [firsts] at h
  | .ty _ :: js, _, h => by simp [firsts] at h
theorem firsts_pure : ∀ {k : Nat} {rs fs : List PV}, firsts rs = some fs → pures? (k + 1) rs = true → pures? k fs = true
  | k, [], fs, h, _ => by simp only [firsts, Option.some.injEq] at h; subst h; simp [pures?]
  | k, .tup (x :: ys) :: r, fs, h, hp => by
    simp only [firsts, Option.map_eq_some_iff] at h
    obtain ⟨fs', h, rfl⟩ := h
    simp only [pures?, pure?, Bool.and_eq_true] at hp
    simp only [pures?, Bool.and_eq_true]
    exact ⟨hp.1.1, firsts_pure h hp.2⟩
  | k, .tup [] :: r, fs, h, _ => by simp [firsts] at h
  | k, .non :: js, _, h, _ => by simp [firsts] at h
  | k, .bl _ :: js, _, h, _ => by simp [firsts] at h
  | k, .int _ :: js, _, h, _ => by simp [firsts] at h
  | k, .str _ :: js, _, h, _ => by simp [firsts] at h
  | k, .glo _ :: js, _, h, _ => by simp [firsts] at h
  | k, .lst _ :: js, _, h, _ => by simp [firsts] at h
  | k, .dct _ _ :: js, _, h, _ => by simp [firsts] at h
  | k, .ref _ :: js, _, h, _ => by simp [firsts] at h
  | k, .ty _ :: js, _, h, _ => by simp [firsts] at h
end K29
namespace K29
open PySem L2 Mini
theorem firsts_len {rs fs : List PV} (h : firsts rs = some fs) : fs.length = rs.length := by
  rw [(firsts_map h).2, List.length_map]
theorem firsts_loop {n : Nat} {m : Sto} {rs fs : List PV} (h : firsts rs = some fs) (hm : rdQ (.ref n) m = some rs) (hz : rs.length ≤ sizeLine) (a b c d e f g : Option PV) :
    loopC ⟨rs, [(n, rs)]⟩ (.nm 7) fYes (f2 vIx (fVar 7) (fC (.int 0))) [7] [a, b, c, d, e, f, g, none] rs m [] = some (.ok fs, m) := by
  obtain ⟨h1, h2⟩ := firsts_map h
  rw [loopC_map (ok_one hm) (fun x => match x with | .tup (y :: _) => y | _ => .non) rs [] (by simpa using hz) fun x hx => ?_, h2]
  · rfl
  · obtain ⟨y, ys, rfl⟩ := h1 x hx
    exact ⟨[a, b, c, d, e, f, g, some (.tup (y :: ys))], by simp [wipeE], by simp [at_0]⟩
theorem many_len {L : List (List Nat)} {js : List PV} {go : List Nat → Bool} : ∀ {n k : Nat} {acc : List PV} {acc' v : List PV} {k' : Nat}, manyS L js go n k acc = some (acc', v, k') → acc'.length ≤ acc.length + n
  | 0, k, acc, acc', v, k', h => by simp [manyS] at h
  | n + 1, k, acc, acc', v, k', h => by
    obtain ⟨n', w, rest, k1, e, hr, h⟩ := manyS_is h
    cases e
    split at h
    · have := many_len h
      simp at this
      omega
    · simp only [Option.some.injEq, Prod.mk.injEq] at h
      obtain ⟨rfl, _⟩ := h
      omega
theorem sim_Reading_take_rows_behind : Sim 8 3 m_Reading_take_rows_behind F_Reading_take_rows_behind := Sim.rd fun r L k ys m v k' hl hr hL hf => by
  split at hf
  · rename_i w nm ring j
    unfold rowsS at hf
    split at hf
    case h_2 => cases hf
    rename_i w1 rest k1 hrow
    split at hf
    case h_2 => cases hf
    rename_i rs w2 x k2 hmany
    split at hf
    case h_2 => cases hf
    rename_i last cuts k3 hlast
    split at hf
    case h_2 => cases hf
    rename_i vc k4 hclose
    have hp0 : pures? 3 [PV.tup rest] = true := by
      have pr := rowS_pure hrow
      simp only [pure?, pures?, Bool.and_eq_true] at pr
      simp [pure?, pures?, pr.2]
    have hp := (manyS_pure hp0 hmany).1
    have hlen := many_len hmany
    simp only [List.length_singleton] at hlen
    obtain ⟨n', w3, rest3, k5, e, hrow2, h⟩ := manyS_is hmany
    cases e
    have lp := rows_loop r L hL (.tup [.str w, .str nm, .str ring]) j m hr L.length k5 w3 rest3 [.tup rest] rs [.str w2, .int x] k2 fuel (by simp; omega) (by unfold fuel; omega) h
    simp only [condB, bodyB] at lp
    have r1 := row_run0 hr hL hrow
    have r2 := row_run hr hL hrow2 [.lst [.tup rest]]
    have i1 := rins_run hr L k
    have i2 := rins_runz hr L k1 [.lst [.tup rest]]
    have i3 := rins_runz hr L k2 [.lst rs]
    have i4 := rins_runz hr L k3 [.lst rs]
    have r4 := row_run hr hL hclose [.lst rs]
    have vt := tup_run (M := m.set r (rdO L k4)) (n := m.length) (by simp) rs
    have hg : rdQ (.ref m.length) (m.set r (rdO L k4) ++ [.lst rs]) = some rs := by
      have : (m.set r (rdO L k4) ++ [Ob.lst rs])[m.length]? = some (.lst rs) := by
        rw [List.getElem?_append_right (by simp)]; simp
      simp [this]
    have hgs : srcA (.ref m.length) (m.set r (rdO L k4) ++ [.lst rs]) = some ⟨rs, [(m.length, rs)]⟩ := by
      rw [srcA_R, hg]
    have hz : rs.length ≤ sizeLine := Nat.le_trans (show rs.length ≤ 200000 by omega) (by decide)
    have fin : ∃ rows, (if w = sJ then some rs else firsts rs) = some rows ∧ v = .tup [.str nm, .str ring, .tup rows, last, cuts] ∧ k' = k4 := by
      split at hf
      · rename_i hw
        simp only [Option.some.injEq, Prod.mk.injEq] at hf
        exact ⟨rs, by rw [if_pos hw], hf.1.symm, hf.2.symm⟩
      · rename_i hw
        split at hf
        · rename_i fs hfs
          simp only [Option.some.injEq, Prod.mk.injEq] at hf
          exact ⟨fs, by rw [if_neg hw]; exact hfs, hf.1.symm, hf.2.symm⟩
        · cases hf
    obtain ⟨rows, hrows, rfl, rfl⟩ := fin
    have hlp : pure? 2 last = true ∧ pure? 2 cuts = true := by
      unfold lastS at hlast
      split at hlast
      · split at hlast
        · simp only [Option.some.injEq, Prod.mk.injEq] at hlast
          obtain ⟨rfl, rfl, rfl⟩ := hlast
          exact ⟨rfl, rfl⟩
        · cases hlast
      · simp only [Option.some.injEq, Prod.mk.injEq] at hlast
        obtain ⟨rfl, rfl, rfl⟩ := hlast
        exact ⟨rfl, rfl⟩
    have hrp : pures? 3 rows = true := by
      split at hrows
      · cases hrows; exact hp
      · exact pures_up (by decide) (firsts_pure hrows hp)
    refine ⟨[.lst rs], .tup [.str nm, .str ring, .tup rows, last, cuts], ?_, frz_pure _ _ _ _ ?_⟩
    · unfold lastS at hlast
      by_cases hw2 : w2 = sLast
      · rw [if_pos hw2] at hlast
        split at hlast
        case h_2 => cases hlast
        rename_i wc c k6 hrc
        simp only [Option.some.injEq, Prod.mk.injEq] at hlast
        obtain ⟨rfl, rfl, rfl⟩ := hlast
        have r3 := row_run hr hL hrc [.lst rs]
        obtain rfl : w2 = [108, 97, 115, 116] := hw2
        by_cases hw : w = sJ
        · rw [if_pos hw] at hrows
          cases hrows
          obtain rfl : w = [106, 111, 98] := hw
          simp [m_Reading_take_rows_behind, startE, ↓i1, r1, cut_1, at_0, at_1, at_2, ↓i2, r2, List.lookup, tup_small, lp, ↓i3, r3, ↓i4, r4, ↓vt]
        · rw [if_neg hw] at hrows
          have hw' : ¬ w = [106, 111, 98] := hw
          have fl := fun a b c d e f g => firsts_loop hrows hg hz a b c d e f g
          simp [m_Reading_take_rows_behind, startE, ↓i1, r1, cut_1, at_0, at_1, at_2, ↓i2, r2, List.lookup, tup_small, lp, ↓i3, r3, ↓i4, r4, hw', ↓hgs, fl]
      · rw [if_neg hw2] at hlast
        simp only [Option.some.injEq, Prod.mk.injEq] at hlast
        obtain ⟨rfl, rfl, rfl⟩ := hlast
        have hw2' : ¬ w2 = [108, 97, 115, 116] := hw2
        by_cases hw : w = sJ
        · rw [if_pos hw] at hrows
          cases hrows
          obtain rfl : w = [106, 111, 98] := hw
          simp [m_Reading_take_rows_behind, startE, ↓i1, r1, cut_1, at_0, at_1, at_2, ↓i2, r2, List.lookup, tup_small, lp, hw2', ↓i3, ↓i4, r4, ↓vt]
        · rw [if_neg hw] at hrows
          have hw' : ¬ w = [106, 111, 98] := hw
          have fl := fun a b c d e f g => firsts_loop hrows hg hz a b c d e f g
          simp [m_Reading_take_rows_behind, startE, ↓i1, r1, cut_1, at_0, at_1, at_2, ↓i2, r2, List.lookup, tup_small, lp, hw2', ↓i3, ↓i4, r4, hw', ↓hgs, fl]
    · show pures? 49 [.str nm, .str ring, .tup rows, last, cuts] = true
      simp only [pures?, pure?, Bool.and_true, Bool.true_and, Bool.and_eq_true]
      exact ⟨pures_up (by decide) hrp, pure_up (by decide) hlp.1, pure_up (by decide) hlp.2⟩
  · cases hf
end K29
namespace K29
open PySem L2 Mini
/-! ### whole texts -/
def readS (L : List (List Nat)) : Nat → Nat → Nat → List PV → List PV → List PV → Option (List PV × List PV × List PV)
  | 0, _, _, _, _, _ => none
  | n + 1, k, sort, f0, f1, f2 => if k < L.length then match rowS L k ([PV.glo 3, .glo 7, .glo 8].drop sort) with
      | some (.tup [.str w, .str nm], k1) => if w = sR then match ringS nm L k1 with
          | some (v, k2) => readS L n k2 0 (f0 ++ [v]) f1 f2
          | none => none else none
      | some (.tup [.str w, .str nm, .str ring], k1) => if w = sJ then match rowsS w nm ring 9 L k1 with
          | some (v, k2) => readS L n k2 1 f0 (f1 ++ [v]) f2
          | none => none
        else if w = sD then match rowsS w nm ring 10 L k1 with
          | some (v, k2) => readS L n k2 2 f0 f1 (f2 ++ [v])
          | none => none else none
      | _ => none
    else some (f0, f1, f2)
def F_read_text : Fn := fun xs m => match xs with
  | [.str t] => if t.length ≤ 90000 then match readS (TL.spl [10] 0 [] t) 100001 0 0 [] [] [] with
      | some (a, b, c) => some (.tup [.tup a, .tup b, .tup c], m)
      | none => none else none
  | _ => none
/-! ### printing -/
def fg (k : Nat) : List Nat := if k < 10 then [48 + k] else [48 + k / 10, 48 + k % 10]
theorem figs_small : ∀ k : Nat, k < 60 → figs (k : Int) = fg k := by decide +kernel
theorem log_small : ∀ k : Nat, k < 60 → k.log2 < 1920 := by decide +kernel
theorem fg_len (k : Nat) : (fg k).length ≤ 2 := by unfold fg; split <;> simp
def binsOf : List PV → Option (List (List Nat × Nat))
  | [] => some []
  | .tup [.str a, .int k] :: r => if a.length ≤ cap ∧ 0 ≤ k ∧ k < 60 then (binsOf r).map ((a, k.toNat) :: ·) else none
  | _ => none
def prsOf : List PV → Option (List (List Nat × List Nat))
  | [] => some []
  | .tup [.str a, .str b] :: r => if a.length ≤ cap ∧ b.length ≤ cap then (prsOf r).map ((a, b) :: ·) else none
  | _ => none
def binP (q : List Nat × Nat) : PV := .tup [.str q.1, .int (q.2 : Nat)]
def prP (q : List Nat × List Nat) : PV := .tup [.str q.1, .str q.2]
def binL (q : List Nat × Nat) : List Nat := wBin ++ (q.1 ++ (wAt ++ fg q.2))
def carL (q : List Nat × List Nat) : List Nat := wCarry ++ (q.1 ++ (wTo ++ q.2))
def ringL (nm w : List Nat) (B : List (List Nat × Nat)) : List (List Nat) := (wRing ++ nm) :: (wCells ++ w) :: (B.map binL ++ [sEnd])
def endL (last : Option Nat) (cuts : Nat) : List (List Nat) := (match last with | none => [] | some l => [wLast ++ fg l]) ++ [wCuts ++ fg cuts, sEnd]
def headL (w nm ring : List Nat) : List Nat := w ++ ([32] ++ (nm ++ (wOn ++ ring)))
def jobL (nm ring : List Nat) (C : List (List Nat × List Nat)) (last : Option Nat) (cuts : Nat) : List (List Nat) := headL sJ nm ring :: (C.map carL ++ endL last cuts)
def dayL (nm ring : List Nat) (J : List (List Nat)) (last : Option Nat) (cuts : Nat) : List (List Nat) := headL sD nm ring :: (J.map (wDo ++ ·) ++ endL last cuts)
def lastOf : PV → Option (Option Nat)
  | .non => some none
  | .int k => if 0 ≤ k ∧ k < 60 then some (some k.toNat) else none
  | _ => none
def numP : PV → Option Nat
  | .int k => if 0 ≤ k ∧ k < 60 then some k.toNat else none
  | _ => none
def linesP (L : List (List Nat)) : PV := .lst (L.map PV.str)
def lnF (f : PV → Option (List (List Nat))) : Fn := fun xs m => match xs with
  | [x] => match f x with
    | some L => some (linesP L, m)
    | none => none
  | _ => none
def ringQ : PV → Option (List (List Nat)) := fun x => match x with
  | .tup [.str nm, .str w, .tup bs] => match binsOf bs with
    | some B => if nm.length ≤ cap ∧ w.length ≤ cap ∧ B.length ≤ 10000 then some (ringL nm w B) else none
    | none => none
  | _ => none
def F_ring_lines : Fn := lnF ringQ
def F_end_lines : Fn := fun xs m => match xs with
  | [last, cuts] => match lastOf last, numP cuts with
    | some l, some c => some (linesP (endL l c), m)
    | _, _ => none
  | _ => none
def jobQ : PV → Option (List (List Nat)) := fun x => match x with
  | .tup [.str nm, .str ring, .tup cs, last, cuts] => match prsOf cs, lastOf last, numP cuts with
    | some C, some l, some c => if nm.length ≤ cap ∧ ring.length ≤ cap ∧ C.length ≤ 10000 then some (jobL nm ring C l c) else none
    | _, _, _ => none
  | _ => none
def F_job_lines : Fn := lnF jobQ
def dayQ : PV → Option (List (List Nat)) := fun x => match x with
  | .tup [.str nm, .str ring, .tup js, last, cuts] => match strsOf js, lastOf last, numP cuts with
    | some J, some l, some c => if nm.length ≤ cap ∧ ring.length ≤ cap ∧ J.length ≤ 10000 ∧ (∀ j ∈ J, j.length ≤ cap) then some (dayL nm ring J l c) else none
    | _, _, _ => none
  | _ => none
def F_day_lines : Fn := lnF dayQ
def lineOf : Nat → Option (PV → Option (List (List Nat)))
  | 17 => some ringQ
  | 19 => some jobQ
  | 20 => some dayQ
  | _ => none
def tbl_lines : Tbl := fun j => (lineOf j).map fun f => (1, lnF f)
/-- the lines of many, one behind the other -/
def linesS (f : PV → Option (List (List Nat))) : List PV → List (List Nat) → Option (List (List Nat))
  | [], acc => some acc
  | x :: xs, acc => match f x with
    | some L => if acc.length + L.length ≤ 100000 then linesS f xs (acc ++ L) else none
    | none => none
def F_text_lines : Fn := fun xs m => match xs with
  | [.tup [.tup a, .tup b, .tup c]] => match linesS ringQ a [] with
    | some l1 => match linesS jobQ b l1 with
      | some l2 => match linesS dayQ c l2 with
        | some l3 => some (linesP l3, m)
        | none => none
      | none => none
    | none => none
  | _ => none
theorem binsOf_is : ∀ {bs : List PV} {B : List (List Nat × Nat)}, binsOf bs = some B → bs = B.map binP ∧ ∀ q ∈ B, q.1.length ≤ cap ∧ q.2 < 60
  | [], B, h => by simp only [binsOf, Option.some.injEq] at h; subst h; simp
  | x :: r, B, h => by
    unfold binsOf at h
    split at h
    · rename_i e; cases e
    · rename_i a k r' e
      simp only [List.cons.injEq] at e
      obtain ⟨rfl, rfl⟩ := e
      split at h
      · rename_i hc
        simp only [Option.map_eq_some_iff] at h
        obtain ⟨B', h, rfl⟩ := h
        obtain ⟨h1, h2⟩ := binsOf_is h
        refine ⟨?_, fun q hq => ?_⟩
        · rw [List.map_cons, ← h1]
          unfold binP
          simp only [Int.toNat_of_nonneg hc.2.1]
        · rcases List.mem_cons.mp hq with rfl | hq
          · exact ⟨hc.1, by have := hc.2.2; simp only; omega⟩
          · exact h2 q hq
      · cases h
    · cases h
theorem prsOf_is : ∀ {bs : List PV} {B : List (List Nat × List Nat)}, prsOf bs = some B → bs = B.map prP ∧ ∀ q ∈ B, q.1.length ≤ cap ∧ q.2.length ≤ cap
  | [], B, h => by simp only [prsOf, Option.some.injEq] at h; subst h; simp
  | x :: r, B, h => by
    unfold prsOf at h
    split at h
    · rename_i e; cases e
    · rename_i a k r' e
      simp only [List.cons.injEq] at e
      obtain ⟨rfl, rfl⟩ := e
      split at h
      · rename_i hc
        simp only [Option.map_eq_some_iff] at h
        obtain ⟨B', h, rfl⟩ := h
        obtain ⟨h1, h2⟩ := prsOf_is h
        refine ⟨by rw [List.map_cons, ← h1]; rfl, fun q hq => ?_⟩
        rcases List.mem_cons.mp hq with rfl | hq
        · exact hc
        · exact h2 q hq
      · cases h
    · cases h
theorem lastOf_is {x : PV} {l : Option Nat} (h : lastOf x = some l) : (x = .non ∧ l = none) ∨ ∃ k : Nat, x = .int k ∧ l = some k ∧ k < 60 := by
  unfold lastOf at h
  split at h
  · cases h; exact .inl ⟨rfl, rfl⟩
  · split at h
    · rename_i hc
      cases h
      exact .inr ⟨_, by rw [Int.toNat_of_nonneg hc.1], rfl, by omega⟩
    · cases h
  · cases h
theorem numP_is {x : PV} {l : Nat} (h : numP x = some l) : x = .int l ∧ l < 60 := by
  unfold numP at h
  split at h
  · split at h
    · rename_i hc
      cases h
      exact ⟨by rw [Int.toNat_of_nonneg hc.1], by omega⟩
    · cases h
  · cases h
end K29
namespace K29
open PySem L2 Mini
/-- read_text: slots text 0 reading 1 found 2 sort 3 head 4 some 5 -/
noncomputable def m_read_text : Fs :=
    (sSeq (sPar [1, 2, 3] (aCons (fMk 15 2 F_Reading_init (aCons (fVar 0) aNil)) (aCons (fTup (aCons (fAlloc (lDisp aNil)) (aCons (fAlloc (lDisp aNil)) (aCons (fAlloc (lDisp aNil)) aNil)))) (aCons (fC (.int 0)) aNil))))
    (sSeq (loopW (fTst (fMt 15 "are_left" 1 F_Reading_are_left (fVar 1) aNil)) (sSeq (sAsg (.nm 4) (fMt 15 "take_row" 2 F_Reading_take_row (fVar 1) (aCons (fSl (fC c_HEADS) (oSome (fVar 3)) oNone) aNil)))
    (sSeq (sAsg (.nm 3) (f1 vd_SORTS (f2 vIx (fVar 4) (fC (.int 0)))))
    (sIf (fTst (f2 vEq (fVar 3) (fC (.int 0)))) (sDrop (fBm "list" vAppend (f2 vIx (fVar 2) (fC (.int 0))) (aCons (fMt 15 "take_ring_behind" 2 F_Reading_take_ring_behind (fVar 1) (aCons (fVar 4) aNil)) aNil))) (sDrop (fBm "list" vAppend (f2 vIx (fVar 2) (fVar 3)) (aCons (fMt 15 "take_rows_behind" 3 F_Reading_take_rows_behind (fVar 1) (aCons (fVar 4) (aCons (fIf (fTst (f2 vEq (fVar 3) (fC (.int 1)))) (fC (.glo 9)) (fC (.glo 10))) aNil))) aNil)))))) fuel)
    (sRet (fBlt vTuple (aCons (fLst (lComp (iAny (fVar 2)) (.nm 5) fYes (fBlt vTuple (aCons (fVar 5) aNil)) [5])) aNil)))))
/-- ring_lines: slots ring 0 name 1 word 2 bins 3 its 4 cell 5 -/
noncomputable def m_ring_lines : Fs :=
    (sSeq (sAsg (.tp [(.nm 1), (.nm 2), (.nm 3)]) (fVar 0))
    (sRet (fLst (lDisp (aCons (fJ [(fC (.str [114, 105, 110, 103, 32])), (f1 vFmt (fVar 1))] []) (aCons (fJ [(fC (.str [99, 101, 108, 108, 115, 32])), (f1 vFmt (fVar 2))] []) (aStar (fLst (lComp (iAny (fVar 3)) (.tp [(.nm 4), (.nm 5)]) fYes (fJ [(fC (.str [98, 105, 110, 32])), (f1 vFmt (fVar 4)), (fC (.str [32, 97, 116, 32])), (f1 vFmt (fVar 5))] []) [4, 5])) (aCons (fC (.str [101, 110, 100])) aNil))))))))
/-- end_lines: slots last 0 cuts 1 found 2 -/
noncomputable def m_end_lines : Fs :=
    (sSeq (sAsg (.nm 2) (fIf (fTst (f2 (vIs false) (fVar 0) (fC .non))) (fLst (lDisp aNil)) (fLst (lDisp (aCons (fJ [(fC (.str [108, 97, 115, 116, 32])), (f1 vFmt (fVar 0))] []) aNil)))))
    (sRet (fLst (lDisp (aStar (fVar 2) (aCons (fJ [(fC (.str [99, 117, 116, 115, 32])), (f1 vFmt (fVar 1))] []) (aCons (fC (.str [101, 110, 100])) aNil)))))))
/-- job_lines: slots job 0 name 1 ring 2 carries 3 last 4 cuts 5 one 6 other 7 -/
noncomputable def m_job_lines : Fs :=
    (sSeq (sAsg (.tp [(.nm 1), (.nm 2), (.nm 3), (.nm 4), (.nm 5)]) (fVar 0))
    (sRet (fLst (lDisp (aCons (fJ [(fC (.str [106, 111, 98, 32])), (f1 vFmt (fVar 1)), (fC (.str [32, 111, 110, 32])), (f1 vFmt (fVar 2))] []) (aStar (fLst (lComp (iAny (fVar 3)) (.tp [(.nm 6), (.nm 7)]) fYes (fJ [(fC (.str [99, 97, 114, 114, 121, 32])), (f1 vFmt (fVar 6)), (fC (.str [32, 116, 111, 32])), (f1 vFmt (fVar 7))] []) [6, 7])) (aStar (fCl 2 F_end_lines (aCons (fVar 4) (aCons (fVar 5) aNil))) aNil)))))))
/-- day_lines: slots day 0 name 1 ring 2 jobs 3 last 4 cuts 5 job 6 -/
noncomputable def m_day_lines : Fs :=
    (sSeq (sAsg (.tp [(.nm 1), (.nm 2), (.nm 3), (.nm 4), (.nm 5)]) (fVar 0))
    (sRet (fLst (lDisp (aCons (fJ [(fC (.str [100, 97, 121, 32])), (f1 vFmt (fVar 1)), (fC (.str [32, 111, 110, 32])), (f1 vFmt (fVar 2))] []) (aStar (fLst (lComp (iAny (fVar 3)) (.nm 6) fYes (fJ [(fC (.str [100, 111, 32])), (f1 vFmt (fVar 6))] []) [6])) (aStar (fCl 2 F_end_lines (aCons (fVar 4) (aCons (fVar 5) aNil))) aNil)))))))
/-- text_lines: slots text 0 found 1 some 2 lines 3 one 4 -/
noncomputable def m_text_lines : Fs :=
    (sSeq (sAsg (.nm 1) (fAlloc (lDisp aNil)))
    (sSeq (sFor (iZipL (aCons (fVar 0) (aCons (fTup (aCons (fC (.glo 17)) (aCons (fC (.glo 19)) (aCons (fC (.glo 20)) aNil)))) aNil))) (.tp [(.nm 2), (.nm 3)]) (sFor (iAny (fVar 2)) (.nm 4) (sDrop (fBm "list" vExtend (fVar 1) (aCons (fCallV 3 tbl_lines (aCons (fVar 4) aNil)) aNil)))))
    (sRet (fVar 1))))
end K29
namespace K29
open PySem L2 Mini
theorem szl {n : Nat} (h : n ≤ 10000000) : n ≤ sizeLine := Nat.le_trans h (by decide)
@[simp] theorem fmt_small (k : Nat) (m : Sto) (h : k < 60) : vFmt (.int (k : Nat)) m = some (.str (fg k)) := by
  have := log_small k h
  simp [this, figs_small k h]
theorem fmt_str (z : List Nat) (m : Sto) (h : z.length ≤ cap) : vFmt (.str z) m = some (.str z) := by
  simp [Nat.le_trans h cap_line]
/-- joined texts -/
theorem fJ_two {fa fb : Fe} {r : Mini.Env} {m : Sto} {a b : List Nat} (ha : fa r m = some (.ok (.str a), m)) (hb : fb r m = some (.ok (.str b), m)) (h : a.length + b.length ≤ 10000) : fJ [fa, fb] [] r m = some (.ok (.str (a ++ b)), m) := by
  have e1 : a.length ≤ sizeLine := szl (by omega)
  have e2 : a.length + b.length ≤ sizeLine := szl (by omega)
  simp [ha, hb, e1, e2]
theorem fJ_four {fa fb fc fd : Fe} {r : Mini.Env} {m : Sto} {a b c d : List Nat} (ha : fa r m = some (.ok (.str a), m)) (hb : fb r m = some (.ok (.str b), m)) (hc : fc r m = some (.ok (.str c), m)) (hd : fd r m = some (.ok (.str d), m)) (h : a.length + b.length + c.length + d.length ≤ 10000) :
    fJ [fa, fb, fc, fd] [] r m = some (.ok (.str (a ++ (b ++ (c ++ d)))), m) := by
  have e1 : a.length ≤ sizeLine := szl (by omega)
  have e2 : a.length + b.length ≤ sizeLine := szl (by omega)
  have e3 : a.length + b.length + c.length ≤ sizeLine := szl (by omega)
  have e4 : a.length + b.length + c.length + d.length ≤ sizeLine := szl (by omega)
  have e3' : a.length + (b.length + c.length) ≤ sizeLine := szl (by omega)
  have e4' : a.length + (b.length + (c.length + d.length)) ≤ sizeLine := szl (by omega)
  simp [ha, hb, hc, hd, e1, e2, e3, e4, e3', e4', Nat.add_assoc]
theorem pures_lines (k : Nat) : ∀ L : List (List Nat), pures? k (L.map PV.str) = true
  | [] => by cases k <;> simp [pures?]
  | l :: L => by cases k <;> simp [pures?, pure?, pures_lines _ L]
theorem lines_pure (L : List (List Nat)) : pure? deepest (linesP L) = true := by
  show pures? 49 (L.map PV.str) = true
  exact pures_lines 49 L
theorem Sim.ln {N : Nat} {b : Fs} {f : PV → Option (List (List Nat))} (h : ∀ x L m, f x = some L → b (startE N [x]) m = some (.ok (.ret (linesP L)), m)) : Sim N 1 b (lnF f) := Sim.pure fun xs m x m2 hl hF => by
  unfold lnF at hF
  split at hF
  · split at hF
    · rename_i x0 L hx
      simp only [Option.some.injEq, Prod.mk.injEq] at hF
      obtain ⟨rfl, rfl⟩ := hF
      exact ⟨rfl, h _ _ _ hx, lines_pure L⟩
    · cases hF
  · cases hF
theorem sim_ring_lines : Sim 6 1 m_ring_lines F_ring_lines := Sim.ln fun x L m h => by
  unfold ringQ at h
  split at h
  · rename_i nm w bs
    split at h
    · rename_i B hB
      split at h
      · rename_i hc
        simp only [Option.some.injEq] at h
        subst h
        obtain ⟨h1, h2, h3⟩ := hc
        obtain ⟨rfl, hb⟩ := binsOf_is hB
        have lp := loopC_map (src := ⟨B.map binP, []⟩) (tg := .tp [.nm 4, .nm 5]) (fe := (fJ [(fC (.str [98, 105, 110, 32])), (f1 vFmt (fVar 4)), (fC (.str [32, 97, 116, 32])), (f1 vFmt (fVar 5))] [])) (vs := [4, 5])
          (r := [some (.tup [.str nm, .str w, .tup (B.map binP)]), some (.str nm), some (.str w), some (.tup (B.map binP)), none, none]) (m := m) ok_nil (fun x => match x with | .tup [.str a, .int k] => .str (binL (a, k.toNat)) | _ => .non) (B.map binP) [] (by simp; exact szl (by omega)) fun x hx => by
            obtain ⟨q, hq, rfl⟩ := List.mem_map.mp hx
            obtain ⟨q1, q2⟩ := hb q hq
            refine ⟨[some (.tup [.str nm, .str w, .tup (B.map binP)]), some (.str nm), some (.str w), some (.tup (B.map binP)), some (.str q.1), some (.int (q.2 : Nat))], by simp [binP, wipeE], ?_⟩
            have hk := fmt_small q.2 m q2
            have hn := fmt_str q.1 m q1
            have := fg_len q.2
            have hcap : cap = 600 := rfl
            rw [fJ_four (a := [98, 105, 110, 32]) (b := q.1) (c := [32, 97, 116, 32]) (d := fg q.2) rfl (by simp only [e_1, e_var, e_bind, List.getElem?_cons_succ, List.getElem?_cons_zero, hn, e_up]) rfl (by simp only [e_1, e_var, e_bind, List.getElem?_cons_succ, List.getElem?_cons_zero, hk, e_up]) (by simp only [List.length_cons, List.length_nil]; omega)]
            simp [binP, binL, wBin, wAt]
        have j1 : ∀ m, fJ [(fC (.str [114, 105, 110, 103, 32])), (f1 vFmt (fVar 1))] [] [some (.tup [.str nm, .str w, .tup (B.map binP)]), some (.str nm), some (.str w), some (.tup (B.map binP)), none, none] m = some (.ok (.str (wRing ++ nm)), m) := fun m =>
          fJ_two (a := [114, 105, 110, 103, 32]) rfl (by simp only [e_1, e_var, e_bind, List.getElem?_cons_succ, List.getElem?_cons_zero, fmt_str nm m h1, e_up]) (by have : cap = 600 := rfl; simp only [List.length_cons, List.length_nil]; omega)
        have j2 : ∀ m, fJ [(fC (.str [99, 101, 108, 108, 115, 32])), (f1 vFmt (fVar 2))] [] [some (.tup [.str nm, .str w, .tup (B.map binP)]), some (.str nm), some (.str w), some (.tup (B.map binP)), none, none] m = some (.ok (.str (wCells ++ w)), m) := fun m =>
          fJ_two (a := [99, 101, 108, 108, 115, 32]) rfl (by simp only [e_1, e_var, e_bind, List.getElem?_cons_succ, List.getElem?_cons_zero, fmt_str w m h2, e_up]) (by have : cap = 600 := rfl; simp only [List.length_cons, List.length_nil]; omega)
        have mm : (B.map binP).map (fun x => match x with | .tup [.str a, .int k] => PV.str (binL (a, k.toNat)) | _ => .non) = (B.map binL).map PV.str := by
          rw [List.map_map, List.map_map]
          apply List.map_congr_left
          intro q _
          simp [binP]
        rw [mm, List.nil_append] at lp
        have hz : B.length + 1 + 1 + 1 ≤ sizeLine := szl (by omega)
        simp [m_ring_lines, startE, ↓j1, ↓j2, lp, linesP, ringL, hz, sEnd]
      · cases h
    · cases h
  · cases h
theorem sim_end_lines : Sim 3 2 m_end_lines F_end_lines := Sim.pure fun xs m x m2 hl hF => by
  unfold F_end_lines at hF
  split at hF
  · rename_i last cuts
    split at hF
    · rename_i l c h1 h2
      simp only [Option.some.injEq, Prod.mk.injEq] at hF
      obtain ⟨rfl, rfl⟩ := hF
      refine ⟨rfl, ?_, lines_pure _⟩
      obtain ⟨rfl, hc⟩ := numP_is h2
      have lc := fg_len c
      have hk := fmt_small c
      rcases lastOf_is h1 with ⟨rfl, rfl⟩ | ⟨k, rfl, rfl, hk6⟩
      · have j1 : ∀ m, fJ [(fC (.str [99, 117, 116, 115, 32])), (f1 vFmt (fVar 1))] [] [some .non, some (.int (c : Nat)), some (.lst [])] m = some (.ok (.str (wCuts ++ fg c)), m) := fun m =>
          fJ_two (a := [99, 117, 116, 115, 32]) rfl (by simp only [e_1, e_var, e_bind, List.getElem?_cons_succ, List.getElem?_cons_zero, hk m hc, e_up]) (by simp only [List.length_cons, List.length_nil]; omega)
        simp [m_end_lines, startE, vIs, Mini.isNon, ↓j1, endL, linesP, sEnd, tup_small]
      · have lk := fg_len k
        have j0 : ∀ m, fJ [(fC (.str [108, 97, 115, 116, 32])), (f1 vFmt (fVar 0))] [] [some (.int (k : Nat)), some (.int (c : Nat)), none] m = some (.ok (.str (wLast ++ fg k)), m) := fun m =>
          fJ_two (a := [108, 97, 115, 116, 32]) rfl (by simp only [e_1, e_var, e_bind, List.getElem?_cons_succ, List.getElem?_cons_zero, fmt_small k m hk6, e_up]) (by simp only [List.length_cons, List.length_nil]; omega)
        have j1 : ∀ m, fJ [(fC (.str [99, 117, 116, 115, 32])), (f1 vFmt (fVar 1))] [] [some (.int (k : Nat)), some (.int (c : Nat)), some (.lst [.str (wLast ++ fg k)])] m = some (.ok (.str (wCuts ++ fg c)), m) := fun m =>
          fJ_two (a := [99, 117, 116, 115, 32]) rfl (by simp only [e_1, e_var, e_bind, List.getElem?_cons_succ, List.getElem?_cons_zero, hk m hc, e_up]) (by simp only [List.length_cons, List.length_nil]; omega)
        show m_end_lines [some (.int (k : Nat)), some (.int (c : Nat)), none] m = _
        simp [m_end_lines, vIs, Mini.isNon, ↓j0, ↓j1, endL, linesP, sEnd, tup_small]
    · cases hF
  · cases hF
theorem numP_mk {c : Nat} (h : c < 60) : numP (.int (c : Nat)) = some c := by
  simp [numP]; omega
theorem end_len (l : Option Nat) (c : Nat) : (endL l c).length ≤ 3 := by cases l <;> simp [endL]
theorem sim_job_lines : Sim 8 1 m_job_lines F_job_lines := Sim.ln fun x L m h => by
  unfold jobQ at h
  split at h
  · rename_i nm ring cs last cuts
    split at h
    · rename_i C l c hC hl hcu
      split at h
      · rename_i hc
        simp only [Option.some.injEq] at h
        subst h
        obtain ⟨h1, h2, h3⟩ := hc
        obtain ⟨rfl, hb⟩ := prsOf_is hC
        have he : ∀ m, F_end_lines [last, cuts] m = some (linesP (endL l c), m) := fun m => by simp [F_end_lines, hl, hcu]
        have lp := loopC_map (src := ⟨C.map prP, []⟩) (tg := .tp [.nm 6, .nm 7]) (fe := (fJ [(fC (.str [99, 97, 114, 114, 121, 32])), (f1 vFmt (fVar 6)), (fC (.str [32, 116, 111, 32])), (f1 vFmt (fVar 7))] [])) (vs := [6, 7])
          (r := [some (.tup [.str nm, .str ring, .tup (C.map prP), last, cuts]), some (.str nm), some (.str ring), some (.tup (C.map prP)), some last, some cuts, none, none]) (m := m) ok_nil (fun x => match x with | .tup [.str a, .str k] => .str (carL (a, k)) | _ => .non) (C.map prP) [] (by simp; exact szl (by omega)) fun x hx => by
            obtain ⟨q, hq, rfl⟩ := List.mem_map.mp hx
            obtain ⟨q1, q2⟩ := hb q hq
            refine ⟨[some (.tup [.str nm, .str ring, .tup (C.map prP), last, cuts]), some (.str nm), some (.str ring), some (.tup (C.map prP)), some last, some cuts, some (.str q.1), some (.str q.2)], by simp [prP, wipeE], ?_⟩
            have hn := fmt_str q.1 m q1
            have hk := fmt_str q.2 m q2
            have hcap : cap = 600 := rfl
            rw [fJ_four (a := [99, 97, 114, 114, 121, 32]) (b := q.1) (c := [32, 116, 111, 32]) (d := q.2) rfl (by simp only [e_1, e_var, e_bind, List.getElem?_cons_succ, List.getElem?_cons_zero, hn, e_up]) rfl (by simp only [e_1, e_var, e_bind, List.getElem?_cons_succ, List.getElem?_cons_zero, hk, e_up]) (by simp only [List.length_cons, List.length_nil]; omega)]
            simp [prP, carL, wCarry, wTo]
        have j1 : ∀ m, fJ [(fC (.str [106, 111, 98, 32])), (f1 vFmt (fVar 1)), (fC (.str [32, 111, 110, 32])), (f1 vFmt (fVar 2))] [] [some (.tup [.str nm, .str ring, .tup (C.map prP), last, cuts]), some (.str nm), some (.str ring), some (.tup (C.map prP)), some last, some cuts, none, none] m = some (.ok (.str (headL sJ nm ring)), m) := fun m =>
          fJ_four (a := [106, 111, 98, 32]) (c := [32, 111, 110, 32]) rfl (by simp only [e_1, e_var, e_bind, List.getElem?_cons_succ, List.getElem?_cons_zero, fmt_str nm m h1, e_up]) rfl (by simp only [e_1, e_var, e_bind, List.getElem?_cons_succ, List.getElem?_cons_zero, fmt_str ring m h2, e_up]) (by have : cap = 600 := rfl; simp only [List.length_cons, List.length_nil]; omega)
        have mm : (C.map prP).map (fun x => match x with | .tup [.str a, .str k] => PV.str (carL (a, k)) | _ => .non) = (C.map carL).map PV.str := by
          rw [List.map_map, List.map_map]
          apply List.map_congr_left
          intro q _
          simp [prP]
        rw [mm, List.nil_append] at lp
        have hz : C.length + (endL l c).length + 1 ≤ sizeLine := szl (by have := end_len l c; omega)
        simp [m_job_lines, startE, ↓j1, lp, he, linesP, jobL, hz]
      · cases h
    · cases h
  · cases h
theorem sim_day_lines : Sim 7 1 m_day_lines F_day_lines := Sim.ln fun x L m h => by
  unfold dayQ at h
  split at h
  · rename_i nm ring cs last cuts
    split at h
    · rename_i C l c hC hl hcu
      split at h
      · rename_i hc
        simp only [Option.some.injEq] at h
        subst h
        obtain ⟨h1, h2, h3, hb⟩ := hc
        have := strsOf_is hC
        subst this
        have he : ∀ m, F_end_lines [last, cuts] m = some (linesP (endL l c), m) := fun m => by simp [F_end_lines, hl, hcu]
        have lp := loopC_map (src := ⟨C.map PV.str, []⟩) (tg := .nm 6) (fe := (fJ [(fC (.str [100, 111, 32])), (f1 vFmt (fVar 6))] [])) (vs := [6])
          (r := [some (.tup [.str nm, .str ring, .tup (C.map PV.str), last, cuts]), some (.str nm), some (.str ring), some (.tup (C.map PV.str)), some last, some cuts, none]) (m := m) ok_nil (fun x => match x with | .str a => .str (wDo ++ a) | _ => .non) (C.map PV.str) [] (by simp; exact szl (by omega)) fun x hx => by
            obtain ⟨q, hq, rfl⟩ := List.mem_map.mp hx
            have q1 := hb q hq
            refine ⟨[some (.tup [.str nm, .str ring, .tup (C.map PV.str), last, cuts]), some (.str nm), some (.str ring), some (.tup (C.map PV.str)), some last, some cuts, some (.str q)], by simp [wipeE], ?_⟩
            have hn := fmt_str q m q1
            have hcap : cap = 600 := rfl
            rw [fJ_two (a := [100, 111, 32]) (b := q) rfl (by simp only [e_1, e_var, e_bind, List.getElem?_cons_succ, List.getElem?_cons_zero, hn, e_up]) (by simp only [List.length_cons, List.length_nil]; omega)]
            simp [wDo]
        have j1 : ∀ m, fJ [(fC (.str [100, 97, 121, 32])), (f1 vFmt (fVar 1)), (fC (.str [32, 111, 110, 32])), (f1 vFmt (fVar 2))] [] [some (.tup [.str nm, .str ring, .tup (C.map PV.str), last, cuts]), some (.str nm), some (.str ring), some (.tup (C.map PV.str)), some last, some cuts, none] m = some (.ok (.str (headL sD nm ring)), m) := fun m =>
          fJ_four (a := [100, 97, 121, 32]) (c := [32, 111, 110, 32]) rfl (by simp only [e_1, e_var, e_bind, List.getElem?_cons_succ, List.getElem?_cons_zero, fmt_str nm m h1, e_up]) rfl (by simp only [e_1, e_var, e_bind, List.getElem?_cons_succ, List.getElem?_cons_zero, fmt_str ring m h2, e_up]) (by have : cap = 600 := rfl; simp only [List.length_cons, List.length_nil]; omega)
        have mm : (C.map PV.str).map (fun x => match x with | .str a => PV.str (wDo ++ a) | _ => .non) = (C.map (wDo ++ ·)).map PV.str := by
          rw [List.map_map, List.map_map]
          rfl
        rw [mm, List.nil_append] at lp
        have hz : C.length + (endL l c).length + 1 ≤ sizeLine := szl (by have := end_len l c; omega)
        simp [m_day_lines, startE, ↓j1, lp, he, linesP, dayL, hz]
      · cases h
    · cases h
  · cases h
end K29
namespace K29
open PySem L2 Mini
theorem loopF_e' {ys : List PV} {tg : Tg} {body : Fs} {r : Mini.Env} {m : Sto} {x : PV} {xs : List PV} : loopF ⟨ys, []⟩ tg body (x :: xs) r m = match tg.put x r with
    | some r1 => (body r1 m).bind fun fl m1 => match fl with
      | .next r2 => loopF ⟨ys, []⟩ tg body xs r2 m1
      | .cont r2 => loopF ⟨ys, []⟩ tg body xs r2 m1
      | .brk r2 => some (.ok (.next r2), m1)
      | .ret v => some (.ok (.ret v), m1)
    | none => none := loopF_e ok_nil
theorem loopF_0' {ys : List PV} {tg : Tg} {body : Fs} {r : Mini.Env} {m : Sto} : loopF ⟨ys, []⟩ tg body [] r m = some (.ok (.next r), m) := loopF_0 ok_nil
theorem ext_run (m : Sto) (acc zs : List PV) (h : acc.length + zs.length ≤ sizeLine) : vExtend (.ref m.length) [.lst zs] (m ++ [.lst acc]) = some (.non, m ++ [.lst (acc ++ zs)]) := by
  simp [vExtend, h]
def bodyX : Fs := (sDrop (fBm "list" vExtend (fVar 1) (aCons (fCallV 3 tbl_lines (aCons (fVar 4) aNil)) aNil)))
theorem lines_loop (f : PV → Option (List (List Nat))) (j : Nat) (hj : lineOf j = some f) (src : Src) (hsrc : ∀ m, src.ok m) (t so : PV) (m : Sto) : ∀ (xs : List PV) (acc acc' : List (List Nat)) (x4 : Option PV), linesS f xs acc = some acc' →
    ∃ x4', loopF src (.nm 4) bodyX xs [some t, some (.ref m.length), some so, some (.glo j), x4] (m ++ [.lst (acc.map PV.str)]) = some (.ok (.next [some t, some (.ref m.length), some so, some (.glo j), x4']), m ++ [.lst (acc'.map PV.str)])
  | [], acc, acc', x4, h => by
    simp only [linesS, Option.some.injEq] at h
    subst h
    exact ⟨x4, by rw [loopF_0 (hsrc _)]⟩
  | x :: xs, acc, acc', x4, h => by
    unfold linesS at h
    split at h
    · rename_i L hx
      split at h
      · rename_i hl
        obtain ⟨x4', ih⟩ := lines_loop f j hj src hsrc t so m xs (acc ++ L) acc' (some x) h
        refine ⟨x4', ?_⟩
        rw [loopF_e (hsrc _)]
        have hT : tbl_lines j = some (1, lnF f) := by simp [tbl_lines, hj]
        have hc := chk_run (M := m) rfl (acc.map PV.str)
        have hf : ∀ m, lnF f [x] m = some (linesP L, m) := fun m => by simp [lnF, hx]
        have he := ext_run m (acc.map PV.str) (L.map PV.str) (by simp; exact szl (by omega))
        have ih' := ih
        rw [List.map_append] at ih'
        simp only [bodyX] at ih'
        simp [bodyX, hc, hT, hf, linesP, he, ih']
      · cases h
    · cases h
theorem sim_text_lines : Sim 5 1 m_text_lines F_text_lines := fun xs m x m2 hl hF => by
  unfold F_text_lines at hF
  split at hF
  case h_2 => cases hF
  rename_i a b c
  split at hF
  case h_2 => cases hF
  rename_i l1 h1
  split at hF
  case h_2 => cases hF
  rename_i l2 h2
  split at hF
  case h_2 => cases hF
  rename_i l3 h3
  simp only [Option.some.injEq, Prod.mk.injEq] at hF
  obtain ⟨rfl, rfl⟩ := hF
  refine ⟨.ret (.ref m.length), m ++ [.lst (l3.map PV.str)], .ref m.length, m.length, ?_, .inl rfl, by simp, app_cmp _ _, ?_⟩
  · obtain ⟨x1, e1⟩ := lines_loop ringQ 17 rfl ⟨a, []⟩ (fun m => ok_nil) (.tup [.tup a, .tup b, .tup c]) (.tup a) m a [] l1 none h1
    obtain ⟨x2, e2⟩ := lines_loop jobQ 19 rfl ⟨b, []⟩ (fun m => ok_nil) (.tup [.tup a, .tup b, .tup c]) (.tup b) m b l1 l2 x1 h2
    obtain ⟨x3, e3⟩ := lines_loop dayQ 20 rfl ⟨c, []⟩ (fun m => ok_nil) (.tup [.tup a, .tup b, .tup c]) (.tup c) m c l2 l3 x2 h3
    simp only [bodyX, List.map_nil] at e1 e2 e3
    simp [m_text_lines, startE, tup_small, loopF_e', loopF_0', e1, e2, e3]
  · rw [frz_d]
    simp only [frz]
    rw [if_neg (by omega)]
    simp only [List.getElem?_concat_length]
    rw [frzs_pure _ _ _ _ (pures_lines 49 l3)]
    rfl
theorem rd_at {f : RF} (m z : Sto) {L : List (List Nat)} (hl : L.length ≤ 100000) {k k' : Nat} {ys : List PV} {v : PV} (hf : f L k ys = some (v, k')) : rdF f (.ref m.length :: ys) (m ++ rdO L k :: z) = some (v, m ++ rdO L k' :: z) := by
  have hg : (m ++ rdO L k :: z)[m.length]? = some (rdO L k) := by rw [app_get0]; rfl
  unfold rdF
  simp only [rdOf_mk hg hl, hf, app_set0, List.set_cons_zero]
theorem ins_at (m z : Sto) (L : List (List Nat)) (k : Nat) : insOf (.ref m.length) (m ++ rdO L k :: z) = some (m.length, 15, [("lines", .lst (L.map PV.str)), ("ahead", .int (k : Nat))]) := by
  rw [e_insOf, app_get0]
  rfl
theorem left_at (m z : Sto) {L : List (List Nat)} (hl : L.length ≤ 100000) (k : Nat) : F_Reading_are_left [.ref m.length] (m ++ rdO L k :: z) = some (.bl (decide (k < L.length)), m ++ rdO L k :: z) := by
  have hg : (m ++ rdO L k :: z)[m.length]? = some (rdO L k) := by rw [app_get0]; rfl
  unfold F_Reading_are_left
  simp only [rdOf_mk hg hl]
theorem app_at (m z : Sto) (i : Nat) (xs : List PV) (v : PV) (hz : z[i]? = some (.lst xs)) (hl : xs.length < sizeLine) : vAppend (.ref (m.length + i)) [v] (m ++ z) = some (.non, m ++ z.set i (.lst (xs ++ [v]))) := by
  rw [v_append _ xs v _ (by rw [app_get]; exact hz) hl, app_set]
theorem chk_at (m z : Sto) (i : Nat) (xs : List PV) (hz : z[i]? = some (.lst xs)) : chkT "list" (.ref (m.length + i)) (m ++ z) = true := by
  simp [chkT, app_get, hz]
def condT : Ft := (fTst (fMt 15 "are_left" 1 F_Reading_are_left (fVar 1) aNil))
def bodyT : Fs := (sSeq (sAsg (.nm 4) (fMt 15 "take_row" 2 F_Reading_take_row (fVar 1) (aCons (fSl (fC c_HEADS) (oSome (fVar 3)) oNone) aNil)))
    (sSeq (sAsg (.nm 3) (f1 vd_SORTS (f2 vIx (fVar 4) (fC (.int 0)))))
    (sIf (fTst (f2 vEq (fVar 3) (fC (.int 0)))) (sDrop (fBm "list" vAppend (f2 vIx (fVar 2) (fC (.int 0))) (aCons (fMt 15 "take_ring_behind" 2 F_Reading_take_ring_behind (fVar 1) (aCons (fVar 4) aNil)) aNil))) (sDrop (fBm "list" vAppend (f2 vIx (fVar 2) (fVar 3)) (aCons (fMt 15 "take_rows_behind" 3 F_Reading_take_rows_behind (fVar 1) (aCons (fVar 4) (aCons (fIf (fTst (f2 vEq (fVar 3) (fC (.int 1)))) (fC (.glo 9)) (fC (.glo 10))) aNil))) aNil))))))
theorem read_loop (m : Sto) (L : List (List Nat)) (hL : L.length ≤ 100000) (t : PV) : ∀ (n k sort : Nat) (f0 f1 f2 g0 g1 g2 : List PV) (x4 : Option PV) (F : Nat), n < F → f0.length + n ≤ 1000000 → f1.length + n ≤ 1000000 → f2.length + n ≤ 1000000 → readS L n k sort f0 f1 f2 = some (g0, g1, g2) →
    ∃ k' sort' x4', loopW condT bodyT F [some t, some (.ref m.length), some (.tup [.ref (m.length + 1), .ref (m.length + 2), .ref (m.length + 3)]), some (.int (sort : Nat)), x4, none] (m ++ [rdO L k, .lst f0, .lst f1, .lst f2]) =
      some (.ok (.next [some t, some (.ref m.length), some (.tup [.ref (m.length + 1), .ref (m.length + 2), .ref (m.length + 3)]), some (.int (sort' : Nat)), x4', none]), m ++ [rdO L k', .lst g0, .lst g1, .lst g2]) := by
  intro n
  induction n with
  | zero => intro k sort f0 f1 f2 g0 g1 g2 x4 F _ _ _ _ h; simp [readS] at h
  | succ n ih =>
    intro k sort f0 f1 f2 g0 g1 g2 x4 F hF h0 h1 h2 h
    obtain ⟨F, rfl⟩ : ∃ F', F = F' + 1 := ⟨F - 1, by omega⟩
    have hz : sizeLine = 16777216 := rfl
    have lf := left_at m [.lst f0, .lst f1, .lst f2] hL k
    have i0 := ins_at m [.lst f0, .lst f1, .lst f2] L k
    unfold readS at h
    rw [loopW_e]
    split at h
    case isFalse hk =>
      simp only [Option.some.injEq, Prod.mk.injEq] at h
      obtain ⟨rfl, rfl, rfl⟩ := h
      exact ⟨k, sort, x4, by simp [condT, ↓i0, lf, List.lookup, hk]⟩
    rename_i hk
    have hcut : cutL [PV.glo 3, .glo 7, .glo 8] (some (sort : Nat)) none = [PV.glo 3, .glo 7, .glo 8].drop sort := cutL_from _ _
    split at h
    case h_3 => cases h
    · rename_i w nm k1 hrow
      have hrr : F_Reading_take_row [.ref m.length, .tup ([PV.glo 3, .glo 7, .glo 8].drop sort)] (m ++ [rdO L k, .lst f0, .lst f1, .lst f2]) = some (.tup [.str w, .str nm], m ++ [rdO L k1, .lst f0, .lst f1, .lst f2]) := rd_at m _ hL hrow
      split at h
      case isFalse => cases h
      rename_i hw
      split at h
      case h_2 => cases h
      rename_i v k2 hring
      have i1 := ins_at m [.lst f0, .lst f1, .lst f2] L k1
      have hrb : F_Reading_take_ring_behind [.ref m.length, .tup [.str w, .str nm]] (m ++ [rdO L k1, .lst f0, .lst f1, .lst f2]) = some (v, m ++ [rdO L k2, .lst f0, .lst f1, .lst f2]) := rd_at m _ hL hring
      obtain ⟨k', sort', x4', e⟩ := ih k2 0 (f0 ++ [v]) f1 f2 g0 g1 g2 (some (.tup [.str w, .str nm])) F (by omega) (by simp; omega) (by omega) (by omega) h
      refine ⟨k', sort', x4', ?_⟩
      have hs : ∀ m, vd_SORTS (.str w) m = some (.int 0) := fun m => by simp [vd_SORTS, hw]
      have ck := chk_at m [rdO L k1, .lst f0, .lst f1, .lst f2] 1 f0 rfl
      have ap := app_at m [rdO L k2, .lst f0, .lst f1, .lst f2] 1 f0 v rfl (by omega)
      simp only [List.set_cons_succ, List.set_cons_zero] at ap
      simp only [condT, bodyT, c_HEADS] at e
      rw [show ((0 : Nat) : Int) = 0 from rfl] at e
      simp [condT, bodyT, ↓i0, lf, List.lookup, hk, c_HEADS, hcut, hrr, at_0, hs, ck, ↓i1, hrb, ap, e]
    · rename_i w nm ring k1 hrow
      have hrr : F_Reading_take_row [.ref m.length, .tup ([PV.glo 3, .glo 7, .glo 8].drop sort)] (m ++ [rdO L k, .lst f0, .lst f1, .lst f2]) = some (.tup [.str w, .str nm, .str ring], m ++ [rdO L k1, .lst f0, .lst f1, .lst f2]) := rd_at m _ hL hrow
      have i1 := ins_at m [.lst f0, .lst f1, .lst f2] L k1
      split at h
      · rename_i hw
        split at h
        case h_2 => cases h
        rename_i v k2 hrows
        have hrb : F_Reading_take_rows_behind [.ref m.length, .tup [.str w, .str nm, .str ring], .glo 9] (m ++ [rdO L k1, .lst f0, .lst f1, .lst f2]) = some (v, m ++ [rdO L k2, .lst f0, .lst f1, .lst f2]) := rd_at m _ hL hrows
        obtain ⟨k', sort', x4', e⟩ := ih k2 1 f0 (f1 ++ [v]) f2 g0 g1 g2 (some (.tup [.str w, .str nm, .str ring])) F (by omega) (by omega) (by simp; omega) (by omega) h
        refine ⟨k', sort', x4', ?_⟩
        have hs : ∀ m, vd_SORTS (.str w) m = some (.int 1) := fun m => by
          subst hw
          rfl
        have ck := chk_at m [rdO L k1, .lst f0, .lst f1, .lst f2] 2 f1 rfl
        have ap := app_at m [rdO L k2, .lst f0, .lst f1, .lst f2] 2 f1 v rfl (by omega)
        simp only [List.set_cons_succ, List.set_cons_zero] at ap
        simp only [condT, bodyT, c_HEADS] at e
        rw [show ((1 : Nat) : Int) = 1 from rfl] at e
        simp [condT, bodyT, ↓i0, lf, List.lookup, hk, c_HEADS, hcut, hrr, at_0, at_1, hs, ck, ↓i1, hrb, ap, e]
      · rename_i hw
        split at h
        case isFalse => cases h
        rename_i hw2
        split at h
        case h_2 => cases h
        rename_i v k2 hrows
        have hrb : F_Reading_take_rows_behind [.ref m.length, .tup [.str w, .str nm, .str ring], .glo 10] (m ++ [rdO L k1, .lst f0, .lst f1, .lst f2]) = some (v, m ++ [rdO L k2, .lst f0, .lst f1, .lst f2]) := rd_at m _ hL hrows
        obtain ⟨k', sort', x4', e⟩ := ih k2 2 f0 f1 (f2 ++ [v]) g0 g1 g2 (some (.tup [.str w, .str nm, .str ring])) F (by omega) (by omega) (by omega) (by simp; omega) h
        refine ⟨k', sort', x4', ?_⟩
        have hs : ∀ m, vd_SORTS (.str w) m = some (.int 2) := fun m => by
          subst hw2
          rfl
        have ck := chk_at m [rdO L k1, .lst f0, .lst f1, .lst f2] 3 f2 rfl
        have ap := app_at m [rdO L k2, .lst f0, .lst f1, .lst f2] 3 f2 v rfl (by omega)
        simp only [List.set_cons_succ, List.set_cons_zero] at ap
        simp only [condT, bodyT, c_HEADS] at e
        rw [show ((2 : Nat) : Int) = 2 from rfl] at e
        simp [condT, bodyT, ↓i0, lf, List.lookup, hk, c_HEADS, hcut, hrr, at_0, at_2, hs, ck, ↓i1, hrb, ap, e]
theorem ringS_pure {nm : List Nat} {L : List (List Nat)} {k k' : Nat} {v : PV} (hf : ringS nm L k = some (v, k')) : pure? 5 v = true := by
  unfold ringS at hf
  split at hf
  · split at hf
    · rename_i hmany
      simp only [Option.some.injEq, Prod.mk.injEq] at hf
      obtain ⟨rfl, rfl⟩ := hf
      have hp := (manyS_pure (by rfl) hmany).1
      simp only [pures?, pure?, Bool.and_true, Bool.true_and]
      exact hp
    · cases hf
  · cases hf
theorem rowsS_pure {w nm ring : List Nat} {j : Nat} {L : List (List Nat)} {k k' : Nat} {v : PV} (hf : rowsS w nm ring j L k = some (v, k')) : pure? 5 v = true := by
  unfold rowsS at hf
  split at hf
  case h_2 => cases hf
  rename_i w1 rest k1 hrow
  split at hf
  case h_2 => cases hf
  rename_i rs w2 x k2 hmany
  split at hf
  case h_2 => cases hf
  rename_i last cuts k3 hlast
  split at hf
  case h_2 => cases hf
  rename_i vc k4 hclose
  have hp0 : pures? 3 [PV.tup rest] = true := by
    have pr := rowS_pure hrow
    simp only [pure?, pures?, Bool.and_eq_true] at pr
    simp [pure?, pures?, pr.2]
  have hp := (manyS_pure hp0 hmany).1
  have hlp : pure? 2 last = true ∧ pure? 2 cuts = true := by
    unfold lastS at hlast
    split at hlast
    · split at hlast
      · simp only [Option.some.injEq, Prod.mk.injEq] at hlast
        obtain ⟨rfl, rfl, rfl⟩ := hlast
        exact ⟨rfl, rfl⟩
      · cases hlast
    · simp only [Option.some.injEq, Prod.mk.injEq] at hlast
      obtain ⟨rfl, rfl, rfl⟩ := hlast
      exact ⟨rfl, rfl⟩
  have fin : ∀ rows, pures? 3 rows = true → pure? 5 (.tup [.str nm, .str ring, .tup rows, last, cuts]) = true := fun rows h => by
    simp only [pures?, pure?, Bool.and_true, Bool.true_and, Bool.and_eq_true]
    exact ⟨h, pure_up (by decide) hlp.1, pure_up (by decide) hlp.2⟩
  split at hf
  · simp only [Option.some.injEq, Prod.mk.injEq] at hf
    obtain ⟨rfl, rfl⟩ := hf
    exact fin _ hp
  · split at hf
    · rename_i hfs
      simp only [Option.some.injEq, Prod.mk.injEq] at hf
      obtain ⟨rfl, rfl⟩ := hf
      exact fin _ (pures_up (by decide) (firsts_pure hfs hp))
    · cases hf
theorem pures_app {k : Nat} : ∀ {xs : List PV} {v : PV}, pures? k xs = true → pure? k v = true → pures? k (xs ++ [v]) = true
  | [], v, _, h => by simp [pures?, h]
  | x :: xs, v, hx, h => by
    simp only [pures?, Bool.and_eq_true] at hx
    simp [pures?, hx.1, pures_app hx.2 h]
theorem readS_pure {L : List (List Nat)} : ∀ {n k sort : Nat} {f0 f1 f2 g0 g1 g2 : List PV}, pures? 5 f0 = true → pures? 5 f1 = true → pures? 5 f2 = true → readS L n k sort f0 f1 f2 = some (g0, g1, g2) → pures? 5 g0 = true ∧ pures? 5 g1 = true ∧ pures? 5 g2 = true
  | 0, k, sort, f0, f1, f2, g0, g1, g2, _, _, _, h => by simp [readS] at h
  | n + 1, k, sort, f0, f1, f2, g0, g1, g2, p0, p1, p2, h => by
    unfold readS at h
    split at h
    · split at h
      · split at h
        · split at h
          · rename_i hr
            exact readS_pure (pures_app p0 (ringS_pure hr)) p1 p2 h
          · cases h
        · cases h
      · split at h
        · split at h
          · rename_i hr
            exact readS_pure p0 (pures_app p1 (rowsS_pure hr)) p2 h
          · cases h
        · split at h
          · split at h
            · rename_i hr
              exact readS_pure p0 p1 (pures_app p2 (rowsS_pure hr)) h
            · cases h
          · cases h
      · cases h
    · simp only [Option.some.injEq, Prod.mk.injEq] at h
      obtain ⟨rfl, rfl, rfl⟩ := h
      exact ⟨p0, p1, p2⟩
theorem sim_read_text : Sim 6 1 m_read_text F_read_text := fun xs m x m2 hl hF => by
  unfold F_read_text at hF
  split at hF
  case h_2 => cases hF
  rename_i t
  split at hF
  case isFalse => cases hF
  rename_i ht
  split at hF
  case h_2 => cases hF
  rename_i a b c hr
  simp only [Option.some.injEq, Prod.mk.injEq] at hF
  obtain ⟨rfl, rfl⟩ := hF
  have hL : (TL.spl [10] 0 [] t).length ≤ 100000 := by
    have := spl_length [10] t 0 []
    omega
  obtain ⟨k', sort', x4', e⟩ := read_loop m (TL.spl [10] 0 [] t) hL (.str t) 100001 0 0 [] [] [] a b c none fuel (by decide) (by decide) (by decide) (by decide) hr
  obtain ⟨pa, pb, pc⟩ := readS_pure (by rfl) (by rfl) (by rfl) hr
  have hi : F_Reading_init [.ref m.length, .str t] (m ++ [Ob.ins 15 []]) = some (.non, m ++ [rdO (TL.spl [10] 0 [] t) 0]) := by
    simp [F_Reading_init, ht]
  generalize TL.spl [10] 0 [] t = L at *
  have v1 : vTuple [.ref (m.length + 1)] (m ++ [rdO L k', .lst a, .lst b, .lst c]) = some (.tup a) := by rw [v_tupR, app_get]; rfl
  have v2 : vTuple [.ref (m.length + 2)] (m ++ [rdO L k', .lst a, .lst b, .lst c]) = some (.tup b) := by rw [v_tupR, app_get]; rfl
  have v3 : vTuple [.ref (m.length + 3)] (m ++ [rdO L k', .lst a, .lst b, .lst c]) = some (.tup c) := by rw [v_tupR, app_get]; rfl
  refine ⟨.ret (.tup [.tup a, .tup b, .tup c]), m ++ [rdO L k', .lst a, .lst b, .lst c], _, m.length, ?_, .inl rfl, by simp, app_cmp _ _, frz_pure _ _ _ _ ?_⟩
  · simp only [condT, bodyT] at e
    rw [show ((0 : Nat) : Int) = 0 from rfl] at e
    have z1 : 1 < sizeLine := by decide
    have z2 : 2 < sizeLine := by decide
    have z3 : 0 < sizeLine := by decide
    simp [m_read_text, startE, hi, tup_small, e, loopC_e', loopC_0', wipeE, ↓v1, ↓v2, ↓v3, z1, z2, z3]
  · show pures? 49 [.tup a, .tup b, .tup c] = true
    simp only [pures?, pure?, Bool.and_true, Bool.and_eq_true]
    exact ⟨pures_up (by decide) pa, pures_up (by decide) pb, pures_up (by decide) pc⟩
end K29
namespace K29
open PySem L2 Mini
/-! ### the bag -/
structure Bag where
  a : Int
  h : Int
  k : Nat
  cs : List Int
def bagO (A : Bag) : Ob := .lst [.int A.a, .int A.h, .int (A.k : Nat), .lst (A.cs.map PV.int)]
def bagOf (m : Sto) (x : PV) : Option (Nat × Bag) := match x with
  | .ref s => match m[s]? with
    | some (.lst [.int a, .int h, .int k, .lst cs]) => match intsOf cs with
      | some c => if 0 ≤ k ∧ c.length ≤ 1000 then some (s, ⟨a, h, k.toNat, c⟩) else none
      | none => none
    | _ => none
  | _ => none
theorem bagOf_is {m : Sto} {x : PV} {s : Nat} {A : Bag} (h : bagOf m x = some (s, A)) : x = .ref s ∧ m[s]? = some (bagO A) ∧ A.cs.length ≤ 1000 := by
  unfold bagOf at h
  split at h
  · split at h
    · split at h
      · split at h
        · rename_i hm _ _ hc h0
          simp only [Option.some.injEq, Prod.mk.injEq] at h
          obtain ⟨rfl, rfl⟩ := h
          refine ⟨rfl, ?_, h0.2⟩
          rw [hm, intsOf_is hc]
          unfold bagO
          simp only [Int.toNat_of_nonneg h0.1]
        · cases h
      · cases h
    · cases h
  · cases h
theorem bagOf_mk {m : Sto} {s : Nat} {A : Bag} (h : m[s]? = some (bagO A)) (hc : A.cs.length ≤ 1000) : bagOf m (.ref s) = some (s, A) := by
  unfold bagOf bagO at *
  simp [h, intsOf_map, hc]
abbrev BF := Bag → List PV → Option (PV × Bag)
def bgF (f : BF) : Fn := fun xs m => match xs with
  | x :: ys => match bagOf m x with
    | some (s, A) => match f A ys with
      | some (v, A') => some (v, m.set s (bagO A'))
      | none => none
    | none => none
  | [] => none
theorem belows_ints (n : Nat) : ∀ cs : List Int, belows n (cs.map PV.int) = true
  | [] => by simp [belows]
  | c :: cs => by simp [belows, below, belows_ints n cs]
theorem bagO_below (n : Nat) (A : Bag) : obBelow n (bagO A) = true := by simp [bagO, obBelow, belows, below, belows_ints]
theorem bgF_set {f : BF} {m : Sto} {s : Nat} {A A' : Bag} {ys : List PV} {v : PV} (hs : s < m.length) (hc : A.cs.length ≤ 1000) (hf : f A ys = some (v, A')) : bgF f (.ref s :: ys) (m.set s (bagO A)) = some (v, m.set s (bagO A')) := by
  unfold bgF
  simp [bagOf_mk (List.getElem?_set_self hs) hc, hf, List.set_set]
theorem bgF_setz {f : BF} {m : Sto} {s : Nat} {A A' : Bag} {ys : List PV} {v : PV} (hs : s < m.length) (hc : A.cs.length ≤ 1000) (hf : f A ys = some (v, A')) (z : Sto) : bgF f (.ref s :: ys) (m.set s (bagO A) ++ z) = some (v, m.set s (bagO A') ++ z) := by
  have hg : (m.set s (bagO A) ++ z)[s]? = some (bagO A) := by rw [List.getElem?_append_left (by simpa using hs), List.getElem?_set_self hs]
  unfold bgF
  simp only [bagOf_mk hg hc, hf]
  rw [List.set_append_left _ _ (by simpa using hs), List.set_set]
theorem Sim.bg {N n : Nat} {b : Fs} {f : BF} (h : ∀ (r : Nat) (A : Bag) (ys : List PV) (m : Sto) (v : PV) (A' : Bag), ys.length + 1 = n → r < m.length → A.cs.length ≤ 1000 → f A ys = some (v, A') →
    ∃ z v', b (startE N (.ref r :: ys)) (m.set r (bagO A)) = some (.ok (.ret v'), (m.set r (bagO A')) ++ z) ∧ frz m.length (m.set r (bagO A') ++ z) deepest v' = some v) : Sim N n b (bgF f) := fun xs m x m2 hl hF => by
  unfold bgF at hF
  split at hF
  · rename_i x0 ys
    split at hF
    · rename_i r A hs
      obtain ⟨rfl, hm, hc⟩ := bagOf_is hs
      split at hF
      · rename_i v A' hf
        simp only [Option.some.injEq, Prod.mk.injEq] at hF
        obtain ⟨rfl, rfl⟩ := hF
        have hr := (List.getElem?_eq_some_iff.mp hm).1
        obtain ⟨z, v', h1, h2⟩ := h r A ys m v A' hl hr hc hf
        rw [set_same hm] at h1
        refine ⟨.ret v', _, v', m.length, h1, .inl rfl, ?_, ⟨Nat.le_refl _, fun i o hi ho => ?_⟩, h2⟩
        · rw [List.take_left' (by simp)]
        · rw [List.getElem?_append_left (by simpa using hi)] at ho
          exact (set_cmp (m := m) (s := r) (Nat.le_refl _) (bagO_below _ A')).old i o hi ho
      · cases hF
    · cases hF
  · cases hF
/-! ### what is drawn -/
def stir (A : Bag) : Bag := if A.a = 0 then
    let cell := (A.cs.drop A.k).headD 0
    ⟨if 10 ^ 18 ≤ cell then cell else 0, (A.h * 48271 + cell % 2147483647 + 7919 * ((A.k : Int) + 1)) % 2147483647, A.k + 1, A.cs⟩
  else A
def fstN (h : Int) : Int := (h + 1) * 39373 % 1000000007
def sndN (h : Int) : Int := fstN h * fstN h % 998244353 * 30011 % 998244353
def tk (A : Bag) (n : Int) : Int × Bag :=
  let B := stir A
  if 0 < B.a then (B.a % n, { B with a := B.a / n }) else (sndN B.h / 7 % n, B)
theorem stir_cs (A : Bag) : (stir A).cs = A.cs := by unfold stir; split <;> rfl
theorem tk_cs (A : Bag) (n : Int) : (tk A n).2.cs = A.cs := by
  unfold tk
  simp only
  split <;> exact stir_cs A
theorem tk_range (A : Bag) {n : Int} (h : 0 < n) : 0 ≤ (tk A n).1 ∧ (tk A n).1 < n := by
  unfold tk
  simp only
  split
  · exact ⟨Int.emod_nonneg _ (by omega), Int.emod_lt_of_pos _ h⟩
  · exact ⟨Int.emod_nonneg _ (by omega), Int.emod_lt_of_pos _ h⟩
/-- the draw as a number -/
def tkN (A : Bag) (n : Nat) : Nat := (tk A n).1.toNat
theorem tkN_lt (A : Bag) {n : Nat} (h : 0 < n) : tkN A n < n := by
  have := tk_range A (n := (n : Int)) (by omega)
  unfold tkN
  omega
theorem tkN_is (A : Bag) {n : Nat} (h : 0 < n) : (tk A n).1 = (tkN A n : Nat) := by
  have := tk_range A (n := (n : Int)) (by omega)
  unfold tkN
  omega
def tkB (A : Bag) (n : Nat) : Bag := (tk A n).2
@[simp] theorem tkB_cs (A : Bag) (n : Nat) : (tkB A n).cs = A.cs := tk_cs A n
def F_law_take : Fn := bgF fun A ys => match ys with
  | [.int n] => if 0 < n ∧ n < 1073741824 then some (.int (tkN A n.toNat : Nat), tkB A n.toNat) else none
  | _ => none
def F_law_bag : Fn := fun xs m => match xs with
  | [.ref s] => match m[s]? with
    | some (.rol cs) => match intsOf cs with
      | some c => some (.ref m.length, m ++ [bagO ⟨0, 1234567891, 0, (c.take 63).map fun i => if i < 0 then -i else i⟩])
      | none => none
    | _ => none
  | _ => none
/-- one of the texts -/
def F_law_some : Fn := bgF fun A ys => match ys with
  | [.lst xs] => match strsOf xs with
    | some zs => if zs ≠ [] ∧ zs.length ≤ 1000 then some (.str (zs.getD (tkN A zs.length) []), tkB A zs.length) else none
    | none => none
  | _ => none
def turnN (w : List Nat) (many : Int) : List Nat := (List.range w.length).map fun (k : Nat) => w.getD (((k : Int) - many) % (w.length : Int)).toNat 0
def F_law_turned : Fn := fun xs m => match xs with
  | [.str w, .int many] => if w ≠ [] ∧ w.length ≤ cap then some (.str (turnN w many), m) else none
  | _ => none
def leaveN (w : List Nat) : List Nat := (List.range' 1 (w.length - 1)).filter fun (k : Nat) => decide (turnN w k = w)
def F_law_leaving : Fn := fun xs m => match xs with
  | [.str w] => if w ≠ [] ∧ w.length ≤ cap then some (.lst ((leaveN w).map fun (k : Nat) => PV.int k), m) else none
  | _ => none
/-- the signs of a word -/
def five : List (List Nat) := [[97], [97], [98], [98], [99]]
def signsB : Nat → Bag → List Nat × Bag
  | 0, A => ([], A)
  | n + 1, A => let q := signsB n (tkB A 5); ((five.getD (tkN A 5) []) ++ q.1, q.2)
def lastC (w : List Nat) : Nat := w.getLastD 0
def wordN (A : Bag) (least most : Nat) : List Nat × Bag :=
  let size := least + tkN A (most - least + 1)
  let q := signsB size (tkB A (most - least + 1))
  let w := q.1
  if 0 < tkN q.2 8 ∧ leaveN w ≠ [] then
    let B := tkB q.2 8
    if tkN B 2 = 0 then (99 :: (List.replicate w.length 97).drop 1, tkB B 2) else (w.dropLast ++ [if lastC w = 99 then 98 else 99], tkB B 2)
  else (w, tkB q.2 8)
def F_law_word : Fn := bgF fun A ys => match ys with
  | [.int least, .int most] => if 0 < least ∧ least ≤ most ∧ most ≤ 100 then some (.str (wordN A least.toNat most.toNat).1, (wordN A least.toNat most.toNat).2) else none
  | _ => none
end K29
namespace K29
open PySem L2 Mini
/-- law_bag: slots script 0 cell 1 -/
noncomputable def m_law_bag : Fs :=
    (sRet (fAlloc (lDisp (aCons (fC (.int 0)) (aCons (fC (.int 1234567891)) (aCons (fC (.int 0)) (aCons (fLst (lComp (iAny (fSl (fVar 0) oNone (oSome (fC (.int 63))))) (.nm 1) fYes (fBlt vAbs (aCons (fVar 1) aNil)) [1])) aNil)))))))
/-- law_take: slots bag 0 many 1 first 2 second 3 cell 4 stirred 5 value 6 -/
noncomputable def m_law_take : Fs :=
    (sSeq (sIf (fTst (f2 vEq (f2 vIx (fVar 0) (fC (.int 0))) (fC (.int 0)))) (sSeq (sAsg (.nm 4) (f2 vIx (f2 vAdd (fSl (f2 vIx (fVar 0) (fC (.int 3))) (oSome (f2 vIx (fVar 0) (fC (.int 2)))) oNone) (fLst (lDisp (aCons (fC (.int 0)) aNil)))) (fC (.int 0))))
    (sSeq (sAugIx vAddI (fVar 0) (fC (.int 2)) (fC (.int 1)))
    (sSeq (sIf (fTst (f2 vGe (fVar 4) (f2 vPow (fC (.int 10)) (fC (.int 18))))) (sSetIx (fVar 0) (fC (.int 0)) (fVar 4)) sNil)
    (sSeq (sAsg (.nm 5) (f2 vAdd (f2 vAdd (f2 vMulA (f2 vIx (fVar 0) (fC (.int 1))) (fC (.int 48271))) (f2 vMod (fBlt vInt (aCons (fVar 4) aNil)) (fC (.int 2147483647)))) (f2 vMulA (fC (.int 7919)) (f2 vIx (fVar 0) (fC (.int 2))))))
    (sSetIx (fVar 0) (fC (.int 1)) (f2 vMod (fBlt vInt (aCons (fVar 5) aNil)) (fC (.int 2147483647)))))))) sNil)
    (sSeq (sIf (fTst (f2 vGt (f2 vIx (fVar 0) (fC (.int 0))) (fC (.int 0)))) (sSeq (sAsg (.nm 6) (f2 vMod (fBlt vInt (aCons (f2 vIx (fVar 0) (fC (.int 0))) aNil)) (fVar 1)))
    (sSeq (sSetIx (fVar 0) (fC (.int 0)) (f2 vDiv (fBlt vInt (aCons (f2 vIx (fVar 0) (fC (.int 0))) aNil)) (fVar 1)))
    (sRet (fVar 6)))) sNil)
    (sSeq (sAsg (.nm 2) (f2 vMod (fBlt vInt (aCons (f2 vMulA (f2 vAdd (f2 vIx (fVar 0) (fC (.int 1))) (fC (.int 1))) (fC (.int 39373))) aNil)) (fC (.int 1000000007))))
    (sSeq (sAsg (.nm 3) (f2 vMod (fBlt vInt (aCons (f2 vMulA (f2 vMod (fBlt vInt (aCons (f2 vMulA (fVar 2) (fVar 2)) aNil)) (fC (.int 998244353))) (fC (.int 30011))) aNil)) (fC (.int 998244353))))
    (sRet (f2 vMod (fBlt vInt (aCons (f2 vDiv (fVar 3) (fC (.int 7))) aNil)) (fVar 1)))))))
/-- law_some: slots bag 0 things 1 -/
noncomputable def m_law_some : Fs :=
    (sRet (f2 vIx (fVar 1) (fCl 2 F_law_take (aCons (fVar 0) (aCons (fBlt vLen (aCons (fVar 1) aNil)) aNil)))))
/-- law_turned: slots word 0 many 1 k 2 -/
noncomputable def m_law_turned : Fs :=
    (sRet (fBm "str" vJoin (fC (.str [])) (aCons (fLst (lComp (iRng1 (aCons (fBlt vLen (aCons (fVar 0) aNil)) aNil)) (.nm 2) fYes (f2 vIx (fVar 0) (f2 vMod (f2 vSub (fVar 2) (fVar 1)) (fBlt vLen (aCons (fVar 0) aNil)))) [2])) aNil)))
/-- law_leaving: slots word 0 many 1 -/
noncomputable def m_law_leaving : Fs :=
    (sRet (fLst (lComp (iRng2 (aCons (fC (.int 1)) (aCons (fBlt vLen (aCons (fVar 0) aNil)) aNil))) (.nm 1) (fTst (f2 vEq (fCl 2 F_law_turned (aCons (fVar 0) (aCons (fVar 1) aNil))) (fVar 0))) (fVar 1) [1])))
/-- law_word: slots bag 0 least 1 most 2 size 3 word 4 k 5 -/
noncomputable def m_law_word : Fs :=
    (sSeq (sAsg (.nm 3) (f2 vAdd (fVar 1) (fCl 2 F_law_take (aCons (fVar 0) (aCons (f2 vAdd (f2 vSub (fVar 2) (fVar 1)) (fC (.int 1))) aNil)))))
    (sSeq (sAsg (.nm 4) (fBm "str" vJoin (fC (.str [])) (aCons (fLst (lComp (iRng1 (aCons (fVar 3) aNil)) (.nm 5) fYes (fCl 2 F_law_some (aCons (fVar 0) (aCons (fLst (lDisp (aCons (fC (.str [97])) (aCons (fC (.str [97])) (aCons (fC (.str [98])) (aCons (fC (.str [98])) (aCons (fC (.str [99])) aNil))))))) aNil))) [5])) aNil)))
    (sSeq (sIf (fAndT (fTst (f2 vGt (fCl 2 F_law_take (aCons (fVar 0) (aCons (fC (.int 8)) aNil))) (fC (.int 0)))) (fTst (f2 vNe (fCl 1 F_law_leaving (aCons (fVar 4) aNil)) (fLst (lDisp aNil))))) (sAsg (.nm 4) (fIf (fTst (f2 vEq (fCl 2 F_law_take (aCons (fVar 0) (aCons (fC (.int 2)) aNil))) (fC (.int 0)))) (f2 vAdd (fC (.str [99])) (fSl (f2 vMulA (fC (.str [97])) (fBlt vLen (aCons (fVar 4) aNil))) (oSome (fC (.int 1))) oNone)) (f2 vAdd (fSl (fVar 4) oNone (oSome (f1 vNeg (fC (.int 1))))) (fIf (fTst (f2 vNe (f2 vIx (fVar 4) (f1 vNeg (fC (.int 1)))) (fC (.str [99])))) (fC (.str [99])) (fC (.str [98])))))) sNil)
    (sRet (fVar 4)))))
end K29
namespace K29
open PySem L2 Mini
theorem sim_law_bag : Sim 2 1 m_law_bag F_law_bag := fun xs m x m2 hl hF => by
  unfold F_law_bag at hF
  split at hF
  case h_2 => cases hF
  rename_i s
  split at hF
  case h_2 => cases hF
  rename_i cs hm
  split at hF
  case h_2 => cases hF
  rename_i c hc
  cases hF
  have := intsOf_is hc
  subst this
  obtain ⟨d, hd⟩ : ∃ d, c.take 63 = d := ⟨_, rfl⟩
  have hdl : d.length ≤ 63 := by rw [← hd, List.length_take]; omega
  have hcut : cutL (c.map PV.int) none (some 63) = d.map PV.int := by
    rw [show (63 : Int) = ((63 : Nat) : Int) from rfl, cutL_to, ← List.map_take, hd]
  rw [hd]
  have lp := loopC_map (src := ⟨d.map PV.int, []⟩) (tg := .nm 1) (fe := (fBlt vAbs (aCons (fVar 1) aNil))) (vs := [1]) (r := [some (.ref s), none]) (m := m) ok_nil (fun x => match x with | .int i => .int (if i < 0 then -i else i) | _ => .non)
    (d.map PV.int) [] (by simp; exact szl (by omega)) fun x hx => by
      obtain ⟨i, _, rfl⟩ := List.mem_map.mp hx
      exact ⟨[some (.ref s), some (.int i)], by simp [wipeE], by simp⟩
  rw [List.map_map, List.nil_append] at lp
  refine ⟨.ret (.ref m.length), m ++ [bagO ⟨0, 1234567891, 0, d.map fun i => if i < 0 then -i else i⟩], .ref m.length, m.length + 1, ?_, .inl rfl, (List.take_of_length_le (by simp)).symm, ⟨by omega, fun i o hi ho => ?_⟩, ?_⟩
  · have e : ((fun x => match x with | PV.int i => PV.int (if i < 0 then -i else i) | _ => .non) ∘ PV.int) = PV.int ∘ fun i => if i < 0 then -i else i := rfl
    rw [e, ← List.map_map] at lp
    obtain ⟨q, hq⟩ : ∃ q, (d.map fun i => if i < 0 then -i else i) = q := ⟨_, rfl⟩
    rw [hq] at lp ⊢
    simp [m_law_bag, startE, hm, hcut, lp, tup_small, bagO]
  · by_cases h : i < m.length
    · rw [List.getElem?_append_left h] at ho
      exact .inl ho
    · have : i = m.length := by omega
      subst this
      rw [List.getElem?_concat_length] at ho
      cases ho
      exact .inr (bagO_below _ _)
  · rw [frz_d]
    simp [frz]
theorem tk_run {m : Sto} {s : Nat} (hs : s < m.length) (A : Bag) (hc : A.cs.length ≤ 1000) (n : Nat) (h0 : 0 < n) (h1 : n < 1073741824) : F_law_take [.ref s, .int (n : Nat)] (m.set s (bagO A)) = some (.int (tkN A n : Nat), m.set s (bagO (tkB A n))) := by
  refine bgF_set hs hc ?_
  have : (0 : Int) < n ∧ (n : Int) < 1073741824 := by omega
  simp only [this, and_self, if_true, Int.toNat_natCast]
theorem fst_b (h : Int) : 0 ≤ fstN h ∧ fstN h < 1000000007 := ⟨Int.emod_nonneg _ (by decide), Int.emod_lt_of_pos _ (by decide)⟩
theorem ixN4 : ixN 4 0 = some 0 ∧ ixN 4 1 = some 1 ∧ ixN 4 2 = some 2 := by decide
theorem at_3 {α : Type} (x y z w : α) (xs : List α) : atI (x :: y :: z :: w :: xs) 3 = some w := at_nat (x :: y :: z :: w :: xs) 3
def tailT : Fs := (sSeq (sIf (fTst (f2 vGt (f2 vIx (fVar 0) (fC (.int 0))) (fC (.int 0)))) (sSeq (sAsg (.nm 6) (f2 vMod (fBlt Mini.vInt (aCons (f2 vIx (fVar 0) (fC (.int 0))) aNil)) (fVar 1)))
    (sSeq (sSetIx (fVar 0) (fC (.int 0)) (f2 vDiv (fBlt Mini.vInt (aCons (f2 vIx (fVar 0) (fC (.int 0))) aNil)) (fVar 1)))
    (sRet (fVar 6)))) sNil)
    (sSeq (sAsg (.nm 2) (f2 vMod (fBlt Mini.vInt (aCons (f2 vMulA (f2 vAdd (f2 vIx (fVar 0) (fC (.int 1))) (fC (.int 1))) (fC (.int 39373))) aNil)) (fC (.int 1000000007))))
    (sSeq (sAsg (.nm 3) (f2 vMod (fBlt Mini.vInt (aCons (f2 vMulA (f2 vMod (fBlt Mini.vInt (aCons (f2 vMulA (fVar 2) (fVar 2)) aNil)) (fC (.int 998244353))) (fC (.int 30011))) aNil)) (fC (.int 998244353))))
    (sRet (f2 vMod (fBlt Mini.vInt (aCons (f2 vDiv (fVar 3) (fC (.int 7))) aNil)) (fVar 1))))))
def headT : Fs := (sIf (fTst (f2 vEq (f2 vIx (fVar 0) (fC (.int 0))) (fC (.int 0)))) (sSeq (sAsg (.nm 4) (f2 vIx (f2 vAdd (fSl (f2 vIx (fVar 0) (fC (.int 3))) (oSome (f2 vIx (fVar 0) (fC (.int 2)))) oNone) (fLst (lDisp (aCons (fC (.int 0)) aNil)))) (fC (.int 0))))
    (sSeq (sAugIx vAddI (fVar 0) (fC (.int 2)) (fC (.int 1)))
    (sSeq (sIf (fTst (f2 vGe (fVar 4) (f2 vPow (fC (.int 10)) (fC (.int 18))))) (sSetIx (fVar 0) (fC (.int 0)) (fVar 4)) sNil)
    (sSeq (sAsg (.nm 5) (f2 vAdd (f2 vAdd (f2 vMulA (f2 vIx (fVar 0) (fC (.int 1))) (fC (.int 48271))) (f2 vMod (fBlt Mini.vInt (aCons (fVar 4) aNil)) (fC (.int 2147483647)))) (f2 vMulA (fC (.int 7919)) (f2 vIx (fVar 0) (fC (.int 2))))))
    (sSetIx (fVar 0) (fC (.int 1)) (f2 vMod (fBlt Mini.vInt (aCons (fVar 5) aNil)) (fC (.int 2147483647)))))))) sNil)
theorem take_is : m_law_take = sSeq headT tailT := rfl
theorem sim_law_take : Sim 7 2 m_law_take F_law_take := Sim.bg fun s A ys m v A' hl hs hcs hf => by
  split at hf
  case h_2 => cases hf
  rename_i n
  split at hf
  case isFalse => cases hf
  rename_i hn
  simp only [Option.some.injEq, Prod.mk.injEq] at hf
  obtain ⟨rfl, rfl⟩ := hf
  obtain ⟨h0, h1⟩ := hn
  obtain ⟨n, rfl⟩ := Int.eq_ofNat_of_zero_le (Int.le_of_lt h0)
  simp only [Int.toNat_natCast]
  refine ⟨[], .int (tkN A n : Nat), ?_, by simp⟩
  rw [← tkN_is A (by omega), List.append_nil]
  unfold tkB tk
  have hset : ∀ o, (m.set s o)[s]? = some o := fun o => List.getElem?_set_self hs
  have n0 : 0 < n := by omega
  have n1 : n < 1073741824 := by omega
  have c1 : ∀ x : Int, cMul x 48271 = true := fun x => by simp [cMul]
  have c2 : ∀ x : Int, cMul 7919 x = true := fun x => by simp [cMul]
  have c3 : ∀ x : Int, cMul x 39373 = true := fun x => by simp [cMul]
  have c4 : ∀ x : Int, cMul x 30011 = true := fun x => by simp [cMul]
  have c5 : ∀ h, cMul (fstN h) (fstN h) = true := fun h => by
    have := fst_b h
    unfold cMul
    simp only [Bool.or_eq_true, Bool.and_eq_true, decide_eq_true_eq]
    left
    omega
  -- what stands behind
  have tail : ∀ (B : Bag) (x4 x5 : Option PV), tailT [some (.ref s), some (.int (n : Nat)), none, none, x4, x5, none] (m.set s (bagO B)) =
      some (.ok (.ret (.int (if 0 < B.a then (B.a % n, { B with a := B.a / n }) else (sndN B.h / 7 % n, B)).1)), m.set s (bagO (if 0 < B.a then (B.a % n, { B with a := B.a / n }) else (sndN B.h / 7 % n, B)).2)) := fun B x4 x5 => by
    by_cases hp : 0 < B.a
    · simp [tailT, bagO, hset, at_0, hp, n0, h1, ixN4]
    · have e1 : (B.h + 1) * 39373 % 1000000007 = fstN B.h := rfl
      have e2 : fstN B.h * fstN B.h % 998244353 * 30011 % 998244353 = sndN B.h := rfl
      simp [tailT, bagO, hset, at_0, at_1, hp, n0, h1, c3, e1, c5, c4, e2]
  by_cases ha : A.a = 0
  · obtain ⟨d, hd⟩ : ∃ d, A.cs.drop A.k = d := ⟨_, rfl⟩
    have hdl : d.length ≤ 1000 := by rw [← hd, List.length_drop]; omega
    have hcell : atI (d.map PV.int ++ [PV.int 0]) 0 = some (.int (d.headD 0)) := by
      cases d with
      | nil => exact at_0 _ _
      | cons c cs => exact at_0 _ _
    have hcut : cutL (A.cs.map PV.int) (some (A.k : Nat)) none = d.map PV.int := by rw [cutL_from, ← List.map_drop, hd]
    have hz : d.length + 1 ≤ sizeLine := szl (by omega)
    obtain ⟨cell, hce⟩ : ∃ cell, d.headD 0 = cell := ⟨_, rfl⟩
    have hst : stir A = ⟨if 10 ^ 18 ≤ cell then cell else 0, (A.h * 48271 + cell % 2147483647 + 7919 * ((A.k : Int) + 1)) % 2147483647, A.k + 1, A.cs⟩ := by
      unfold stir; rw [if_pos ha, hd, hce]
    rw [hce] at hcell
    have tl := fun x5 => tail (stir A) (some (.int cell)) x5
    rw [hst] at tl ⊢
    simp only [bagO] at tl
    have hA : bagO A = .lst [.int 0, .int A.h, .int (A.k : Nat), .lst (A.cs.map PV.int)] := by unfold bagO; rw [ha]
    rw [hA]
    by_cases hc18 : 10 ^ 18 ≤ cell
    · have hc2 : (1000000000000000000 : Int) ≤ cell := by simpa using hc18
      rw [if_pos hc18] at tl ⊢
      rw [take_is]
      simp [startE, headT, hset, at_0, at_1, at_2, at_3, ixN4, hcut, hcell, hz, hc2, c1, c2, Int.add_assoc, tup_small] at tl ⊢
      simp [tl]
      rfl
    · have hc2 : ¬ (1000000000000000000 : Int) ≤ cell := by simpa using hc18
      rw [if_neg hc18] at tl ⊢
      rw [take_is]
      simp [startE, headT, hset, at_0, at_1, at_2, at_3, ixN4, hcut, hcell, hz, hc2, c1, c2, Int.add_assoc, tup_small] at tl ⊢
      simp [tl]
      rfl
  · have hst : stir A = A := by unfold stir; rw [if_neg ha]
    have tl := tail A none none
    rw [hst, take_is]
    simp only [bagO] at tl ⊢
    simp [startE, headT, hset, at_0, ha, tl]
end K29
namespace K29
open PySem L2 Mini
theorem sim_law_some : Sim 2 2 m_law_some F_law_some := Sim.bg fun s A ys m v A' hl hs hcs hf => by
  split at hf
  case h_2 => cases hf
  rename_i xs
  split at hf
  case h_2 => cases hf
  rename_i zs hz
  split at hf
  case isFalse => cases hf
  rename_i hc
  simp only [Option.some.injEq, Prod.mk.injEq] at hf
  obtain ⟨rfl, rfl⟩ := hf
  have := strsOf_is hz
  subst this
  obtain ⟨h0, h1⟩ := hc
  have hpos : 0 < zs.length := List.length_pos_iff.mpr h0
  refine ⟨[], .str (zs.getD (tkN A zs.length) []), ?_, by simp⟩
  have tr := tk_run hs A hcs zs.length hpos (by omega)
  have hlt := tkN_lt A hpos
  have hat : atI (zs.map PV.str) (tkN A zs.length : Nat) = some (.str (zs.getD (tkN A zs.length) [])) := by
    rw [at_nat]
    simp [List.getD, hlt]
  simp [m_law_some, startE, tr, hat]
theorem some_run {m : Sto} {s : Nat} (hs : s < m.length) (A : Bag) (hc : A.cs.length ≤ 1000) (zs : List (List Nat)) (h0 : zs ≠ []) (h1 : zs.length ≤ 1000) :
    F_law_some [.ref s, .lst (zs.map PV.str)] (m.set s (bagO A)) = some (.str (zs.getD (tkN A zs.length) []), m.set s (bagO (tkB A zs.length))) :=
  bgF_set hs hc (by simp only [strsOf_map, h0, h1, ne_eq, not_false_eq_true, and_self, if_true])
theorem spl_one (l : List (List Nat)) : TL.joinL [] l = l.flatten := by
  induction l with
  | nil => rfl
  | cons p l ih =>
    cases l with
    | nil => simp [TL.joinL]
    | cons q r => rw [TL.joinL, ih]; simp
theorem getD_at {w : List Nat} {i : Int} (h0 : 0 ≤ i) (h1 : i < w.length) : atI w i = some (w.getD i.toNat 0) := by
  obtain ⟨k, rfl⟩ := Int.eq_ofNat_of_zero_le h0
  rw [at_nat]
  have : k < w.length := by omega
  simp [List.getD, this]
theorem flat_sg : ∀ ks : List Nat, (ks.map fun k => [k]).flatten = ks
  | [] => rfl
  | k :: ks => by simp [flat_sg ks]
theorem rangeP_nat (n : Nat) : rangeP 0 (n : Nat) = (List.range n).map fun (k : Nat) => PV.int (k : Nat) := by
  unfold rangeP
  simp
theorem small_nat {n : Nat} (h : n ≤ 100000) : smallR (n : Nat) = true := by
  unfold smallR
  simp
  omega
theorem sim_law_turned : Sim 3 2 m_law_turned F_law_turned := Sim.pure fun xs m x m2 hl hF => by
  unfold F_law_turned at hF
  split at hF
  case h_2 => cases hF
  rename_i w many
  split at hF
  case isFalse => cases hF
  rename_i hc
  simp only [Option.some.injEq, Prod.mk.injEq] at hF
  obtain ⟨rfl, rfl⟩ := hF
  obtain ⟨hne, hcap⟩ := hc
  have hcap' : cap = 600 := rfl
  have h1 : w.length ≤ sizeLine := Nat.le_trans hcap cap_line
  have hpos : 0 < w.length := List.length_pos_iff.mpr hne
  refine ⟨rfl, ?_, rfl⟩
  have hsm := small_nat (n := w.length) (by omega)
  have lp := loopC_map (src := ⟨rangeP 0 (w.length : Nat), []⟩) (tg := .nm 2) (fe := (f2 vIx (fVar 0) (f2 vMod (f2 vSub (fVar 2) (fVar 1)) (fBlt vLen (aCons (fVar 0) aNil))))) (vs := [2]) (r := [some (.str w), some (.int many), none]) (m := m) ok_nil
    (fun x => match x with | .int k => .str [w.getD ((k - many) % (w.length : Int)).toNat 0] | _ => .non) (rangeP 0 (w.length : Nat)) [] (by rw [rangeP_nat]; simp; exact szl (by omega)) fun x hx => by
      rw [rangeP_nat] at hx
      obtain ⟨k, _, rfl⟩ := List.mem_map.mp hx
      refine ⟨[some (.str w), some (.int many), some (.int (k : Nat))], by simp [wipeE], ?_⟩
      have e := getD_at (w := w) (i := ((k : Int) - many) % (w.length : Int)) (Int.emod_nonneg _ (by omega)) (Int.emod_lt_of_pos _ (by omega))
      simp [h1, hpos, e]
  have mm : (rangeP 0 (w.length : Nat)).map (fun x => match x with | .int k => PV.str [w.getD ((k - many) % (w.length : Int)).toNat 0] | _ => .non) = ((turnN w many).map fun k => [k]).map PV.str := by
    rw [rangeP_nat]
    unfold turnN
    rw [List.map_map, List.map_map, List.map_map]
    rfl
  rw [mm, List.nil_append] at lp
  have hlen : (turnN w many).length = w.length := by simp [turnN]
  have vj : vJoin (.str []) [.lst (((turnN w many).map fun k => [k]).map PV.str)] m = some (.str (turnN w many), m) := by
    have hsum : ∀ ks : List Nat, ((ks.map fun k => [k]).map (·.length)).sum = ks.length := fun ks => by
      induction ks with
      | nil => rfl
      | cons k ks ih => simp at ih ⊢; omega
    unfold vJoin
    simp only [e_rdS1, strsOf_map, spl_one, flat_sg, hsum, List.length_nil, Nat.mul_zero, Nat.add_zero]
    rw [if_pos (by omega)]
  obtain ⟨q, hq⟩ : ∃ q, ((turnN w many).map fun k => [k]) = q := ⟨_, rfl⟩
  rw [hq] at lp vj
  simp [m_law_turned, startE, h1, hsm, lp, chkT, vj]
theorem sim_law_leaving : Sim 2 1 m_law_leaving F_law_leaving := Sim.pure fun xs m x m2 hl hF => by
  unfold F_law_leaving at hF
  split at hF
  case h_2 => cases hF
  rename_i w
  split at hF
  case isFalse => cases hF
  rename_i hc
  simp only [Option.some.injEq, Prod.mk.injEq] at hF
  obtain ⟨rfl, rfl⟩ := hF
  obtain ⟨hne, hcap⟩ := hc
  have hcap' : cap = 600 := rfl
  have h1 : w.length ≤ sizeLine := Nat.le_trans hcap cap_line
  have hpos : 0 < w.length := List.length_pos_iff.mpr hne
  have hsm := small_nat (n := w.length) (by omega)
  have hsm1 : smallR 1 = true := by decide
  have hr : rangeP 1 (w.length : Nat) = (List.range' 1 (w.length - 1)).map fun (k : Nat) => PV.int (k : Nat) := by
    unfold rangeP
    have e : ((w.length : Int) - 1).toNat = w.length - 1 := by omega
    rw [e, List.range'_eq_map_range, List.map_map]
    apply List.map_congr_left
    intro k _
    simp
  have ht : ∀ (k : Nat) m, F_law_turned [.str w, .int (k : Nat)] m = some (.str (turnN w k), m) := fun k m => by
    unfold F_law_turned
    simp only [hne, hcap, ne_eq, not_false_eq_true, and_self, if_true]
  have lp := loopC_filter (src := ⟨rangeP 1 (w.length : Nat), []⟩) (tg := .nm 1) (ft := (fTst (f2 vEq (fCl 2 F_law_turned (aCons (fVar 0) (aCons (fVar 1) aNil))) (fVar 0)))) (fe := fVar 1) (vs := [1]) (r := [some (.str w), none]) (m := m) ok_nil
    (fun x => match x with | .int k => decide (turnN w k = w) | _ => false) id (rangeP 1 (w.length : Nat)) [] (by rw [hr]; simp only [List.length_nil, List.length_map, List.length_range', Nat.zero_add]; exact szl (by omega)) fun x hx => by
      rw [hr] at hx
      obtain ⟨k, _, rfl⟩ := List.mem_map.mp hx
      exact ⟨[some (.str w), some (.int (k : Nat))], by simp [wipeE], by simp [ht], fun _ => by simp⟩
  have mm : ((rangeP 1 (w.length : Nat)).filter (fun x => match x with | .int k => decide (turnN w k = w) | _ => false)).map id = (leaveN w).map fun (k : Nat) => PV.int k := by
    rw [hr, List.map_id, List.filter_map]
    rfl
  rw [mm, List.nil_append] at lp
  refine ⟨rfl, ?_, ?_⟩
  · simp [m_law_leaving, startE, h1, hsm, hsm1, lp]
  · show pures? 49 _ = true
    have : ∀ ks : List Nat, pures? 49 (ks.map fun (k : Nat) => PV.int k) = true := fun ks => by
      induction ks with
      | nil => simp [pures?]
      | cons k ks ih => simp [pures?, pure?, ih]
    exact this _
theorem word_loop_ (s : Nat) (least most size : PV) (src : Src) (hsrc : ∀ m, src.ok m) (x4 : Option PV) : ∀ (xs : List PV) (A : Bag) (acc : List (List Nat)) (m : Sto), s < m.length → A.cs.length ≤ 1000 → acc.length + xs.length ≤ 10000 →
    ∃ zs : List (List Nat), zs.flatten = (signsB xs.length A).1 ∧ zs.length = xs.length ∧ loopC src (.nm 5) fYes (fCl 2 F_law_some (aCons (fVar 0) (aCons (fLst (lDisp (aCons (fC (.str [97])) (aCons (fC (.str [97])) (aCons (fC (.str [98])) (aCons (fC (.str [98])) (aCons (fC (.str [99])) aNil))))))) aNil))) [5]
      [some (.ref s), some least, some most, some size, x4, none] xs (m.set s (bagO A)) (acc.map PV.str) = some (.ok ((acc ++ zs).map PV.str), m.set s (bagO (signsB xs.length A).2))
  | [], A, acc, m, hs, hc, hl => ⟨[], rfl, rfl, by rw [loopC_0 (hsrc _)]; simp [signsB]⟩
  | x :: xs, A, acc, m, hs, hc, hl => by
    have sr := some_run hs A hc five (by decide) (by decide)
    obtain ⟨zs, h1, h2, h3⟩ := word_loop_ s least most size src hsrc x4 xs (tkB A 5) (acc ++ [five.getD (tkN A 5) []]) m hs (by simpa using hc) (by simp at hl ⊢; omega)
    refine ⟨five.getD (tkN A 5) [] :: zs, by simp [signsB, h1], by simp [h2], ?_⟩
    rw [loopC_e (hsrc _)]
    have hz : acc.length < sizeLine := by have : sizeLine = 16777216 := rfl; simp at hl; omega
    have h3' := h3
    rw [List.map_append] at h3'
    simp only [five, List.map_cons, List.map_nil, List.length_cons, List.length_nil] at sr
    simp only [List.map_cons, List.map_nil] at h3'
    simp [tup_small, wipeE, sr, hz, signsB]
    simpa [five] using h3'
theorem sign_len : ∀ (n : Nat) (A : Bag), (signsB n A).1.length = n
  | 0, A => rfl
  | n + 1, A => by
    have h := tkN_lt A (n := 5) (by decide)
    have : ∀ k < 5, (five.getD k []).length = 1 := by decide
    simp only [signsB, List.length_append, this _ h, sign_len n]
    omega
theorem signs_cs : ∀ (n : Nat) (A : Bag), (signsB n A).2.cs = A.cs
  | 0, A => rfl
  | n + 1, A => by simp only [signsB, signs_cs n, tkB_cs]
theorem five_abc : ∀ k < 5, ∀ c ∈ five.getD k [], c = 97 ∨ c = 98 ∨ c = 99 := by decide
theorem sign_abc : ∀ (n : Nat) (A : Bag), ∀ c ∈ (signsB n A).1, c = 97 ∨ c = 98 ∨ c = 99
  | 0, A => by simp [signsB]
  | n + 1, A => fun c hc => by
    simp only [signsB, List.mem_append] at hc
    rcases hc with hc | hc
    · exact five_abc _ (tkN_lt A (by decide)) c hc
    · exact sign_abc n _ c hc
theorem toDs_ints (m : Sto) (k : Nat) : ∀ zs : List Int, toDs m k (zs.map PV.int) = some (zs.map PyData.int)
  | [] => by simp [toDs]
  | z :: zs => by simp [toDs, toD_int, toDs_ints m k zs]
theorem cut_back (w : List Nat) : cutL w none (some (-1)) = w.dropLast := by
  unfold cutL
  have : HT.sIx w.length w.length (some (-1)) = w.length - 1 := by
    simp [HT.sIx]
    omega
  rw [this, sIx_none, List.dropLast_eq_take]
  simp
theorem at_back {w : List Nat} (h : w ≠ []) : atI w (-1) = some (lastC w) := by
  have hpos : 0 < w.length := List.length_pos_iff.mpr h
  unfold L2.atI ixN
  rw [if_neg (by omega), if_pos (by omega)]
  have : (-1 + (w.length : Int)).toNat = w.length - 1 := by omega
  simp only [Option.bind_some, this]
  unfold lastC
  rw [← List.getLast?_eq_getElem?]
  cases w with
  | nil => exact absurd rfl h
  | cons c w => simp [List.getLast?_eq_some_getLast, List.getLastD]
theorem seq_next {s t : Fs} {r r1 : Mini.Env} {m m1 : Sto} {x : Res Flo} (h : s r m = some (.ok (.next r1), m1)) (h2 : t r1 m1 = x) : sSeq s t r m = x := by
  unfold sSeq; rw [h]; exact h2
theorem seq_ret {s t : Fs} {r : Mini.Env} {m m1 : Sto} {v : PV} (h : s r m = some (.ok (.ret v), m1)) : sSeq s t r m = some (.ok (.ret v), m1) := by
  unfold sSeq; rw [h]; rfl
def wS1 : Fs := (sAsg (.nm 3) (f2 vAdd (fVar 1) (fCl 2 F_law_take (aCons (fVar 0) (aCons (f2 vAdd (f2 vSub (fVar 2) (fVar 1)) (fC (.int 1))) aNil)))))
abbrev fsm : Fe := (fCl 2 F_law_some (aCons (fVar 0) (aCons (fLst (lDisp (aCons (fC (.str [97])) (aCons (fC (.str [97])) (aCons (fC (.str [98])) (aCons (fC (.str [98])) (aCons (fC (.str [99])) aNil))))))) aNil)))
noncomputable def wS2 : Fs := (sAsg (.nm 4) (fBm "str" vJoin (fC (.str [])) (aCons (fLst (lComp (iRng1 (aCons (fVar 3) aNil)) (.nm 5) fYes fsm [5])) aNil)))
def wS3 : Fs := (sIf (fAndT (fTst (f2 vGt (fCl 2 F_law_take (aCons (fVar 0) (aCons (fC (.int 8)) aNil))) (fC (.int 0)))) (fTst (f2 vNe (fCl 1 F_law_leaving (aCons (fVar 4) aNil)) (fLst (lDisp aNil))))) (sAsg (.nm 4) (fIf (fTst (f2 vEq (fCl 2 F_law_take (aCons (fVar 0) (aCons (fC (.int 2)) aNil))) (fC (.int 0)))) (f2 vAdd (fC (.str [99])) (fSl (f2 vMulA (fC (.str [97])) (fBlt vLen (aCons (fVar 4) aNil))) (oSome (fC (.int 1))) oNone)) (f2 vAdd (fSl (fVar 4) oNone (oSome (f1 vNeg (fC (.int 1))))) (fIf (fTst (f2 vNe (f2 vIx (fVar 4) (f1 vNeg (fC (.int 1)))) (fC (.str [99])))) (fC (.str [99])) (fC (.str [98])))))) sNil)
theorem word_is : m_law_word = sSeq wS1 (sSeq wS2 (sSeq wS3 (sRet (fVar 4)))) := rfl
theorem w1 (s : Nat) (least most n0 k : Nat) (A B : Bag) (m : Sto) (hsub : (most : Int) - (least : Int) + 1 = (n0 : Int)) (t1 : F_law_take [.ref s, .int (n0 : Nat)] (m.set s (bagO A)) = some (.int (k : Nat), m.set s (bagO B))) :
   wS1 [some (.ref s), some (.int (least : Nat)), some (.int (most : Nat)), none, none, none] (m.set s (bagO A)) = some (.ok (.next [some (.ref s), some (.int (least : Nat)), some (.int (most : Nat)), some (.int ((least + k : Nat) : Int)), none, none]), m.set s (bagO B)) := by
  simp [wS1, hsub, t1]
theorem w2 (s : Nat) (least most : PV) (N : Int) (B C : Bag) (w : List Nat) (zs : List (List Nat)) (m : Sto) (hsm : smallR N = true)
  (e3 : loopC ⟨rangeP 0 N, []⟩ (.nm 5) fYes fsm [5] [some (.ref s), some least, some most, some (.int N), none, none] (rangeP 0 N) (m.set s (bagO B)) [] = some (.ok (zs.map PV.str), m.set s (bagO C)))
  (vj : ∀ m, vJoin (.str []) [.lst (zs.map PV.str)] m = some (.str w, m)) :
   wS2 [some (.ref s), some least, some most, some (.int N), none, none] (m.set s (bagO B)) = some (.ok (.next [some (.ref s), some least, some most, some (.int N), some (.str w), none]), m.set s (bagO C)) := by
  simp [wS2, hsm, e3, chkT, vj]
theorem w3 (s : Nat) (least most size : PV) (C D E : Bag) (x8 x2 : Nat) (w : List Nat) (lv : List Nat) (m : Sto) (hne : w ≠ []) (hw : w.length ≤ 500)
  (t8 : F_law_take [.ref s, .int 8] (m.set s (bagO C)) = some (.int (x8 : Nat), m.set s (bagO D)))
  (t2 : F_law_take [.ref s, .int 2] (m.set s (bagO D)) = some (.int (x2 : Nat), m.set s (bagO E)))
  (hlv : ∀ m, F_law_leaving [.str w] m = some (.lst (lv.map fun (k : Nat) => PV.int k), m)) :
   ∃ r, wS3 [some (.ref s), some least, some most, some size, some (.str w), none] (m.set s (bagO C)) = some (.ok (.next r),
     m.set s (bagO (if 0 < x8 ∧ lv ≠ [] then E else D))) ∧ r[4]? = some (some (.str (if 0 < x8 ∧ lv ≠ [] then (if x2 = 0 then 99 :: (List.replicate w.length 97).drop 1 else w.dropLast ++ [if lastC w = 99 then 98 else 99]) else w))) := by
  have hlv2 : ∀ m, vNe (.lst (lv.map fun (k : Nat) => PV.int k)) (.lst []) m = some (.bl (!decide (lv = []))) := fun m => by
    unfold vNe vEqB
    rw [show deepest = 49 + 1 from rfl]
    have e : (lv.map fun (k : Nat) => PV.int k) = (lv.map fun (k : Nat) => (k : Int)).map PV.int := by rw [List.map_map]; rfl
    rw [e]
    simp only [toD, toDs_ints, Option.map_some, toDs]
    cases lv with
    | nil => simp [PyData.eqv, PyData.eqvAll]
    | cons a l => simp [PyData.eqv, PyData.eqvAll]
  have hwl : (w.length : Int) ≤ 1048576 := by omega
  have hwz : w.length ≤ sizeLine := szl (by omega)
  by_cases h0 : 0 < x8
  · by_cases hl : lv = []
    · subst hl
      simp only [List.map_nil] at hlv hlv2
      refine ⟨[some (.ref s), some least, some most, some size, some (.str w), none], ?_, by simp⟩
      simp [wS3, t8, h0, hlv, hlv2, tup_small]
    · have hf : (!decide (lv = [])) = true := by simp [hl]
      simp only [hf] at hlv2
      by_cases h2 : x2 = 0
      · subst h2
        have hcut : cutL (List.replicate w.length 97) (some 1) none = (List.replicate w.length 97).drop 1 := cutL_from _ 1
        have hcz : 1 + (w.length - 1) ≤ sizeLine := szl (by omega)
        refine ⟨[some (.ref s), some least, some most, some size, some (.str (99 :: (List.replicate w.length 97).drop 1)), none], ?_, by simp [h0, hl]⟩
        simp [wS3, t8, h0, hl, hlv, hlv2, tup_small, t2, hwl, hwz, hcut, hcz]
      · have hb := cut_back w
        have hbl := at_back hne
        have hcz : w.length - 1 + 1 ≤ sizeLine := szl (by omega)
        refine ⟨[some (.ref s), some least, some most, some size, some (.str (w.dropLast ++ [if lastC w = 99 then 98 else 99])), none], ?_, by simp [h0, hl, h2]⟩
        by_cases h99 : lastC w = 99
        · simp [wS3, t8, h0, hl, hlv, hlv2, tup_small, t2, h2, hwl, hwz, hb, hbl, hcz, h99]
        · simp [wS3, t8, h0, hl, hlv, hlv2, tup_small, t2, h2, hwl, hwz, hb, hbl, hcz, h99]
  · have h0' : x8 = 0 := by omega
    subst h0'
    refine ⟨[some (.ref s), some least, some most, some size, some (.str w), none], ?_, by simp⟩
    simp [wS3, t8]
theorem sim_law_word : Sim 6 3 m_law_word F_law_word := Sim.bg fun s A ys m v A' hl hs hcs hf => by
  split at hf
  case h_2 => cases hf
  rename_i least most
  split at hf
  case isFalse => cases hf
  rename_i hc
  simp only [Option.some.injEq, Prod.mk.injEq] at hf
  obtain ⟨rfl, rfl⟩ := hf
  obtain ⟨h1, h2, h3⟩ := hc
  obtain ⟨least, rfl⟩ := Int.eq_ofNat_of_zero_le (Int.le_of_lt h1)
  obtain ⟨most, rfl⟩ := Int.eq_ofNat_of_zero_le (Int.le_trans (Int.le_of_lt h1) h2)
  simp only [Int.toNat_natCast]
  refine ⟨[], .str (wordN A least most).1, ?_, by simp⟩
  rw [List.append_nil]
  unfold wordN
  obtain ⟨n0, hn0⟩ : ∃ n0, most - least + 1 = n0 := ⟨_, rfl⟩
  simp only [hn0]
  have hsub : (most : Int) - (least : Int) + 1 = (n0 : Int) := by omega
  have t1 := tk_run hs A hcs n0 (by omega) (by omega)
  obtain ⟨k, hk⟩ : ∃ k, tkN A n0 = k := ⟨_, rfl⟩
  have hkl := tkN_lt A (n := n0) (by omega)
  rw [hk] at hkl
  have hB : (tkB A n0).cs.length ≤ 1000 := by simpa using hcs
  simp only [hk] at t1 ⊢
  generalize tkB A n0 = B at *
  have hrl : (rangeP 0 ((least + k : Nat) : Int)).length = least + k := by rw [rangeP_nat]; simp
  obtain ⟨zs, e1, e2, e3⟩ := word_loop_ s (.int (least : Nat)) (.int (most : Nat)) (.int ((least + k : Nat) : Int)) ⟨rangeP 0 ((least + k : Nat) : Int), []⟩ (fun m => ok_nil) none (rangeP 0 ((least + k : Nat) : Int)) B [] m hs hB (by rw [hrl]; simp; omega)
  rw [hrl] at e1 e2 e3
  have hw := sign_len (least + k) B
  have hcs2 := signs_cs (least + k) B
  obtain ⟨w, C, hq⟩ : ∃ w C, signsB (least + k) B = (w, C) := ⟨_, _, rfl⟩
  rw [hq] at e1 e3 hw hcs2
  simp only [hq]
  simp only [] at e1 e3 hw hcs2
  rw [← hcs2] at hB
  have hne : w ≠ [] := fun z => by rw [z] at hw; simp at hw; omega
  have vj : ∀ m, vJoin (.str []) [.lst (zs.map PV.str)] m = some (.str w, m) := fun m => by
    have : (zs.map (·.length)).sum = w.length := by rw [← e1, List.length_flatten]
    unfold vJoin
    simp only [e_rdS1, strsOf_map, spl_one, e1, List.length_nil, Nat.mul_zero, Nat.add_zero, this]
    rw [if_pos (by omega)]
  have t8 : F_law_take [.ref s, .int 8] (m.set s (bagO C)) = some (.int (tkN C 8 : Nat), m.set s (bagO (tkB C 8))) := tk_run hs C hB 8 (by omega) (by omega)
  have hC8 : (tkB C 8).cs.length ≤ 1000 := by simpa using hB
  have t2 : F_law_take [.ref s, .int 2] (m.set s (bagO (tkB C 8))) = some (.int (tkN (tkB C 8) 2 : Nat), m.set s (bagO (tkB (tkB C 8) 2))) := tk_run hs (tkB C 8) hC8 2 (by omega) (by omega)
  have hlv : ∀ m, F_law_leaving [.str w] m = some (.lst ((leaveN w).map fun (k : Nat) => PV.int k), m) := fun m => by
    have : w.length ≤ cap := by have : cap = 600 := rfl; omega
    unfold F_law_leaving
    simp only [hne, this, ne_eq, not_false_eq_true, and_self, if_true]
  have hsm := small_nat (n := least + k) (by omega)
  rw [List.map_nil] at e3
  rw [show (([] : List (List Nat)) ++ zs) = zs from rfl] at e3
  have r1 := w1 s least most n0 k A B m hsub t1
  have r2 := w2 s (.int (least : Nat)) (.int (most : Nat)) ((least + k : Nat) : Int) B C w zs m hsm e3 vj
  obtain ⟨r, r3, r4⟩ := w3 s (.int (least : Nat)) (.int (most : Nat)) (.int ((least + k : Nat) : Int)) C (tkB C 8) (tkB (tkB C 8) 2) (tkN C 8) (tkN (tkB C 8) 2) w (leaveN w) m hne (by omega) t8 t2 hlv
  rw [word_is]
  refine seq_next r1 (seq_next r2 (seq_next r3 ?_))
  simp only [e_ret, e_var, e_bind, r4]
  by_cases hc : 0 < tkN C 8 ∧ leaveN w ≠ []
  · rw [if_pos hc, if_pos hc, if_pos hc]
    by_cases h2 : tkN (tkB C 8) 2 = 0
    · rw [if_pos h2, if_pos h2]
    · rw [if_neg h2, if_neg h2]
  · rw [if_neg hc, if_neg hc, if_neg hc]
end K29
namespace K29
open PySem L2 Mini
/-! ### tasks, their texts -/
def pairsB (L : Nat) : Nat → Bag → List (Nat × Nat) × Bag
  | 0, A => ([], A)
  | n + 1, A =>
    let q := pairsB L n (tkB (tkB A L) (L - 1))
    ((tkN A L, (tkN A L + 1 + tkN (tkB A L) (L - 1)) % L) :: q.1, q.2)
/-- the group's number behind a draw, the bag -/
def nextG (k g : Nat) (A : Bag) : Nat × Bag := if 0 < k then (if tkN A 4 = 0 then g + 1 else g, tkB A 4) else (g, A)
def groupsB : Nat → Nat → Nat → Bag → List Nat × Bag
  | 0, _, _, A => ([], A)
  | n + 1, k, g, A => let q := groupsB n (k + 1) (nextG k g A).1 (nextG k g A).2
    ((nextG k g A).1 :: q.1, q.2)
def lastB (L : Nat) (A : Bag) : Option Nat × Bag := if tkN A 2 = 0 then (some (tkN (tkB A 2) L), tkB (tkB A 2) L) else (none, tkB A 2)
structure Task where
  w : List Nat
  ps : List (Nat × Nat)
  gs : List Nat
  last : Option Nat
  cuts : Nat
def taskB (A : Bag) (w : List Nat) (carries cuts : Nat) : Task × Bag :=
  let n := 1 + tkN A carries
  let q := pairsB w.length n (tkB A carries)
  let g := groupsB n 0 0 q.2
  let l := lastB w.length g.2
  (⟨w, q.1, g.1, l.1, tkN l.2 (cuts + 1)⟩, tkB l.2 (cuts + 1))
def pairP (q : Nat × Nat) : PV := .tup [.int (q.1 : Nat), .int (q.2 : Nat)]
def natP (k : Nat) : PV := .int (k : Nat)
def optP : Option Nat → PV
  | none => .non
  | some k => .int (k : Nat)
def taskP (T : Task) : PV := .tup [.str T.w, .tup (T.ps.map pairP), .tup (T.gs.map natP), optP T.last, .int (T.cuts : Nat)]
def F_law_task : Fn := bgF fun A ys => match ys with
  | [.str w, .int carries, .int cuts] => if 2 ≤ w.length ∧ w.length ≤ cap ∧ 0 < carries ∧ carries ≤ 1000 ∧ 0 ≤ cuts ∧ cuts ≤ 1000 then some (taskP (taskB A w carries.toNat cuts.toNat).1, (taskB A w carries.toNat cuts.toNat).2) else none
  | _ => none
end K29
namespace K29
open PySem L2 Mini
/-- law_task: slots bag 0 word 1 carries 2 cuts 3 k 4 group 5 last 6 some 7 groups 8 one 9 -/
noncomputable def m_law_task : Fs :=
    (sSeq (sPar [7, 8] (aCons (fAlloc (lDisp aNil)) (aCons (fAlloc (lDisp aNil)) aNil)))
    (sSeq (sFor (iRng1 (aCons (f2 vAdd (fC (.int 1)) (fCl 2 F_law_take (aCons (fVar 0) (aCons (fVar 2) aNil)))) aNil)) (.nm 4) (sSeq (sAsg (.nm 9) (fCl 2 F_law_take (aCons (fVar 0) (aCons (fBlt vLen (aCons (fVar 1) aNil)) aNil))))
    (sDrop (fBm "list" vAppend (fVar 7) (aCons (fTup (aCons (fVar 9) (aCons (f2 vMod (f2 vAdd (f2 vAdd (fVar 9) (fC (.int 1))) (fCl 2 F_law_take (aCons (fVar 0) (aCons (f2 vSub (fBlt vLen (aCons (fVar 1) aNil)) (fC (.int 1))) aNil)))) (fBlt vLen (aCons (fVar 1) aNil))) aNil))) aNil)))))
    (sSeq (sAsg (.nm 5) (fC (.int 0)))
    (sSeq (sFor (iRng1 (aCons (fBlt vLen (aCons (fVar 7) aNil)) aNil)) (.nm 4) (sSeq (sAsg (.nm 5) (f2 vAdd (fVar 5) (fIf (fAndT (fTst (f2 vGt (fVar 4) (fC (.int 0)))) (fTst (f2 vEq (fCl 2 F_law_take (aCons (fVar 0) (aCons (fC (.int 4)) aNil))) (fC (.int 0))))) (fC (.int 1)) (fC (.int 0)))))
    (sDrop (fBm "list" vAppend (fVar 8) (aCons (fVar 5) aNil)))))
    (sSeq (sAsg (.nm 6) (fIf (fTst (f2 vEq (fCl 2 F_law_take (aCons (fVar 0) (aCons (fC (.int 2)) aNil))) (fC (.int 0)))) (fCl 2 F_law_take (aCons (fVar 0) (aCons (fBlt vLen (aCons (fVar 1) aNil)) aNil))) (fC .non)))
    (sRet (fTup (aCons (fVar 1) (aCons (fBlt vTuple (aCons (fVar 7) aNil)) (aCons (fBlt vTuple (aCons (fVar 8) aNil)) (aCons (fVar 6) (aCons (fCl 2 F_law_take (aCons (fVar 0) (aCons (f2 vAdd (fVar 3) (fC (.int 1))) aNil))) aNil))))))))))))
end K29
namespace K29
open PySem L2 Mini
theorem tk_runz {m : Sto} {s : Nat} (hs : s < m.length) (A : Bag) (hc : A.cs.length ≤ 1000) (n : Nat) (h0 : 0 < n) (h1 : n < 1073741824) (z : Sto) : F_law_take [.ref s, .int (n : Nat)] (m.set s (bagO A) ++ z) = some (.int (tkN A n : Nat), m.set s (bagO (tkB A n)) ++ z) := by
  refine bgF_setz hs hc ?_ z
  have : (0 : Int) < n ∧ (n : Int) < 1073741824 := by omega
  simp only [this, and_self, if_true, Int.toNat_natCast]
theorem app_z (M z : Sto) {n : Nat} (i : Nat) (hn : n = M.length + i) (xs : List PV) (v : PV) (hz : z[i]? = some (.lst xs)) (hl : xs.length < sizeLine) : vAppend (.ref n) [v] (M ++ z) = some (.non, M ++ z.set i (.lst (xs ++ [v]))) := by
  subst hn
  exact app_at M z i xs v hz hl
theorem chk_z (M z : Sto) {n : Nat} (i : Nat) (hn : n = M.length + i) (xs : List PV) (hz : z[i]? = some (.lst xs)) : chkT "list" (.ref n) (M ++ z) = true := by
  subst hn
  exact chk_at M z i xs hz
def tB1 : Fs := (sSeq (sAsg (.nm 9) (fCl 2 F_law_take (aCons (fVar 0) (aCons (fBlt vLen (aCons (fVar 1) aNil)) aNil))))
    (sDrop (fBm "list" vAppend (fVar 7) (aCons (fTup (aCons (fVar 9) (aCons (f2 vMod (f2 vAdd (f2 vAdd (fVar 9) (fC (.int 1))) (fCl 2 F_law_take (aCons (fVar 0) (aCons (f2 vSub (fBlt vLen (aCons (fVar 1) aNil)) (fC (.int 1))) aNil)))) (fBlt vLen (aCons (fVar 1) aNil))) aNil))) aNil))))
theorem tB1_run (s : Nat) (w : List Nat) (x2 x3 x4 : PV) (x9 : Option PV) (n n1 L x y : Nat) (A B C : Bag) (m : Sto) (z1 z2 : List PV) (hn : n = m.length) (hL : L = w.length) (h2 : 2 ≤ L) (hz : w.length ≤ sizeLine) (hl1 : ((L : Nat) : Int) - 1 = ((n1 : Nat) : Int))
    (t1 : F_law_take [.ref s, .int (L : Nat)] (m.set s (bagO A) ++ [.lst z1, .lst z2]) = some (.int (x : Nat), m.set s (bagO B) ++ [.lst z1, .lst z2]))
    (t2 : F_law_take [.ref s, .int (n1 : Nat)] (m.set s (bagO B) ++ [.lst z1, .lst z2]) = some (.int (y : Nat), m.set s (bagO C) ++ [.lst z1, .lst z2])) (hzl : z1.length < sizeLine) :
    tB1 [some (.ref s), some (.str w), some x2, some x3, some x4, none, none, some (.ref n), some (.ref (n + 1)), x9] (m.set s (bagO A) ++ [.lst z1, .lst z2]) =
      some (.ok (.next [some (.ref s), some (.str w), some x2, some x3, some x4, none, none, some (.ref n), some (.ref (n + 1)), some (.int (x : Nat))]), m.set s (bagO C) ++ [.lst (z1 ++ [pairP (x, (x + 1 + y) % L)]), .lst z2]) := by
  subst hL
  have ck := chk_z (m.set s (bagO B)) [.lst z1, .lst z2] (n := n) 0 (by simp [hn]) z1 rfl
  have ap := app_z (m.set s (bagO C)) [.lst z1, .lst z2] (n := n) 0 (by simp [hn]) z1 (pairP (x, (x + 1 + y) % w.length)) rfl hzl
  simp only [List.set_cons_zero] at ap
  have hp : 0 < w.length := by omega
  have e : ((x : Int) + 1 + (y : Int)) % (w.length : Int) = (((x + 1 + y) % w.length : Nat) : Int) := by simp
  simp only [pairP] at ap ⊢
  simp only [← e] at ap ⊢
  simp [tB1, t1, hz, ck, hl1, t2, hp, tup_small, ap]
theorem tL1 (s : Nat) (w : List Nat) (x2 x3 : PV) (src : Src) (hsrc : ∀ m, src.ok m) (n : Nat) (m : Sto) (hn : n = m.length) (hs : s < m.length) (z2 : List PV) (h2 : 2 ≤ w.length) (hcap : w.length ≤ cap) : ∀ (xs : List PV) (A : Bag) (z1 : List PV) (x4 x9 : Option PV), A.cs.length ≤ 1000 → z1.length + xs.length ≤ 100000 →
    ∃ x4' x9', loopF src (.nm 4) tB1 xs [some (.ref s), some (.str w), some x2, some x3, x4, none, none, some (.ref n), some (.ref (n + 1)), x9] (m.set s (bagO A) ++ [.lst z1, .lst z2]) =
      some (.ok (.next [some (.ref s), some (.str w), some x2, some x3, x4', none, none, some (.ref n), some (.ref (n + 1)), x9']), m.set s (bagO (pairsB w.length xs.length A).2) ++ [.lst (z1 ++ (pairsB w.length xs.length A).1.map pairP), .lst z2])
  | [], A, z1, x4, x9, hc, hl => ⟨x4, x9, by rw [loopF_0 (hsrc _)]; simp [pairsB]⟩
  | x :: xs, A, z1, x4, x9, hc, hl => by
    have hcap' : cap = 600 := rfl
    have hz : sizeLine = 16777216 := rfl
    simp only [List.length_cons] at hl
    have t1 := tk_runz hs A hc w.length (by omega) (by omega) [.lst z1, .lst z2]
    have t2 := tk_runz hs (tkB A w.length) (by simpa using hc) (w.length - 1) (by omega) (by omega) [.lst z1, .lst z2]
    have b := tB1_run s w x2 x3 x x9 n (w.length - 1) w.length _ _ A _ _ m z1 z2 hn rfl h2 (by omega) (by omega) t1 t2 (by omega)
    obtain ⟨x4', x9', ih⟩ := tL1 s w x2 x3 src hsrc n m hn hs z2 h2 hcap xs (tkB (tkB A w.length) (w.length - 1)) (z1 ++ [pairP (tkN A w.length, (tkN A w.length + 1 + tkN (tkB A w.length) (w.length - 1)) % w.length)]) (some x) (some (.int (tkN A w.length : Nat))) (by simpa using hc) (by simp; omega)
    refine ⟨x4', x9', ?_⟩
    rw [loopF_e (hsrc _)]
    simp only [e_put, List.set_cons_succ, List.set_cons_zero, b, Res.bind]
    rw [ih]
    simp [pairsB]
def tB2 : Fs := (sSeq (sAsg (.nm 5) (f2 vAdd (fVar 5) (fIf (fAndT (fTst (f2 vGt (fVar 4) (fC (.int 0)))) (fTst (f2 vEq (fCl 2 F_law_take (aCons (fVar 0) (aCons (fC (.int 4)) aNil))) (fC (.int 0))))) (fC (.int 1)) (fC (.int 0)))))
    (sDrop (fBm "list" vAppend (fVar 8) (aCons (fVar 5) aNil))))
theorem tB2_run (s : Nat) (x1 x2 x3 : PV) (x9 : Option PV) (n k g x : Nat) (A B : Bag) (m : Sto) (z1 z2 : List PV) (hn : n = m.length)
    (t1 : F_law_take [.ref s, .int 4] (m.set s (bagO A) ++ [.lst z1, .lst z2]) = some (.int (x : Nat), m.set s (bagO B) ++ [.lst z1, .lst z2])) (hzl : z2.length < sizeLine) :
    tB2 [some (.ref s), some x1, some x2, some x3, some (.int (k : Nat)), some (.int (g : Nat)), none, some (.ref n), some (.ref (n + 1)), x9] (m.set s (bagO A) ++ [.lst z1, .lst z2]) =
      some (.ok (.next [some (.ref s), some x1, some x2, some x3, some (.int (k : Nat)), some (.int ((if 0 < k then (if x = 0 then g + 1 else g) else g : Nat) : Int)), none, some (.ref n), some (.ref (n + 1)), x9]),
        m.set s (bagO (if 0 < k then B else A)) ++ [.lst z1, .lst (z2 ++ [natP (if 0 < k then (if x = 0 then g + 1 else g) else g)])]) := by
  by_cases hk : 0 < k
  · have ck := chk_z (m.set s (bagO B)) [.lst z1, .lst z2] (n := n + 1) 1 (by simp [hn]) z2 rfl
    by_cases hx : x = 0
    · subst hx
      have ap := app_z (m.set s (bagO B)) [.lst z1, .lst z2] (n := n + 1) 1 (by simp [hn]) z2 (.int ((g : Int) + 1)) rfl hzl
      simp only [List.set_cons_zero, List.set_cons_succ] at ap
      simp [tB2, t1, ck, hk, ap, natP]
    · have ap := app_z (m.set s (bagO B)) [.lst z1, .lst z2] (n := n + 1) 1 (by simp [hn]) z2 (.int (g : Nat)) rfl hzl
      simp only [List.set_cons_zero, List.set_cons_succ] at ap
      simp [tB2, t1, ck, hk, ap, natP, hx]
  · have hk0 : k = 0 := by omega
    subst hk0
    have ck := chk_z (m.set s (bagO A)) [.lst z1, .lst z2] (n := n + 1) 1 (by simp [hn]) z2 rfl
    have ap := app_z (m.set s (bagO A)) [.lst z1, .lst z2] (n := n + 1) 1 (by simp [hn]) z2 (.int (g : Nat)) rfl hzl
    simp only [List.set_cons_zero, List.set_cons_succ] at ap
    simp [tB2, ck, ap, natP]
theorem nextG_cs (k g : Nat) (A : Bag) : (nextG k g A).2.cs = A.cs := by unfold nextG; split <;> simp
theorem tL2 (s : Nat) (x1 x2 x3 : PV) (x9 : Option PV) (src : Src) (hsrc : ∀ m, src.ok m) (n : Nat) (m : Sto) (hn : n = m.length) (hs : s < m.length) (z1 : List PV) : ∀ (len j g : Nat) (A : Bag) (z2 : List PV) (x4 : Option PV), A.cs.length ≤ 1000 → z2.length + len ≤ 100000 →
    ∃ x4' x5', loopF src (.nm 4) tB2 ((List.range' j len).map natP) [some (.ref s), some x1, some x2, some x3, x4, some (.int (g : Nat)), none, some (.ref n), some (.ref (n + 1)), x9] (m.set s (bagO A) ++ [.lst z1, .lst z2]) =
      some (.ok (.next [some (.ref s), some x1, some x2, some x3, x4', x5', none, some (.ref n), some (.ref (n + 1)), x9]), m.set s (bagO (groupsB len j g A).2) ++ [.lst z1, .lst (z2 ++ (groupsB len j g A).1.map natP)])
  | 0, j, g, A, z2, x4, hc, hl => ⟨x4, some (.int (g : Nat)), by rw [List.range'_zero, List.map_nil, loopF_0 (hsrc _)]; simp [groupsB]⟩
  | len + 1, j, g, A, z2, x4, hc, hl => by
    have hz : sizeLine = 16777216 := rfl
    have t1 : F_law_take [.ref s, .int 4] (m.set s (bagO A) ++ [.lst z1, .lst z2]) = some (.int (tkN A 4 : Nat), m.set s (bagO (tkB A 4)) ++ [.lst z1, .lst z2]) := tk_runz hs A hc 4 (by omega) (by omega) [.lst z1, .lst z2]
    have b := tB2_run s x1 x2 x3 x9 n j g _ A _ m z1 z2 hn t1 (by omega)
    have e1 : (if 0 < j then (if tkN A 4 = 0 then g + 1 else g) else g) = (nextG j g A).1 := by unfold nextG; split <;> rfl
    have e2 : (if 0 < j then tkB A 4 else A) = (nextG j g A).2 := by unfold nextG; split <;> rfl
    rw [e1, e2] at b
    obtain ⟨x4', x5', ih⟩ := tL2 s x1 x2 x3 x9 src hsrc n m hn hs z1 len (j + 1) (nextG j g A).1 (nextG j g A).2 (z2 ++ [natP (nextG j g A).1]) (some (.int (j : Nat))) (by rw [nextG_cs]; exact hc) (by simp; omega)
    refine ⟨x4', x5', ?_⟩
    rw [List.range'_succ, List.map_cons, loopF_e (hsrc _)]
    simp only [e_put, List.set_cons_succ, List.set_cons_zero, Res.bind]
    have b' : tB2 [some (.ref s), some x1, some x2, some x3, some (natP j), some (.int (g : Nat)), none, some (.ref n), some (.ref (n + 1)), x9] (m.set s (bagO A) ++ [.lst z1, .lst z2]) = _ := b
    rw [b']
    simp only []
    rw [ih]
    simp [groupsB]
theorem pairs_len (L : Nat) : ∀ (n : Nat) (A : Bag), (pairsB L n A).1.length = n
  | 0, A => rfl
  | n + 1, A => by simp [pairsB, pairs_len L n]
theorem pairs_cs (L : Nat) : ∀ (n : Nat) (A : Bag), (pairsB L n A).2.cs = A.cs
  | 0, A => rfl
  | n + 1, A => by simp [pairsB, pairs_cs L n]
theorem groups_cs : ∀ (n k g : Nat) (A : Bag), (groupsB n k g A).2.cs = A.cs
  | 0, k, g, A => rfl
  | n + 1, k, g, A => by simp [groupsB, groups_cs n, nextG_cs]
theorem last_cs (L : Nat) (A : Bag) : (lastB L A).2.cs = A.cs := by unfold lastB; split <;> simp
def tS5 : Fs := (sAsg (.nm 6) (fIf (fTst (f2 vEq (fCl 2 F_law_take (aCons (fVar 0) (aCons (fC (.int 2)) aNil))) (fC (.int 0)))) (fCl 2 F_law_take (aCons (fVar 0) (aCons (fBlt vLen (aCons (fVar 1) aNil)) aNil))) (fC .non)))
theorem tS5_run (s : Nat) (w : List Nat) (x2 x3 : PV) (x4 x5 x9 : Option PV) (n x y : Nat) (A B C : Bag) (m : Sto) (z : Sto) (hz : w.length ≤ sizeLine)
    (t1 : F_law_take [.ref s, .int 2] (m.set s (bagO A) ++ z) = some (.int (x : Nat), m.set s (bagO B) ++ z))
    (t2 : F_law_take [.ref s, .int (w.length : Nat)] (m.set s (bagO B) ++ z) = some (.int (y : Nat), m.set s (bagO C) ++ z)) :
    tS5 [some (.ref s), some (.str w), some x2, some x3, x4, x5, none, some (.ref n), some (.ref (n + 1)), x9] (m.set s (bagO A) ++ z) =
      some (.ok (.next [some (.ref s), some (.str w), some x2, some x3, x4, x5, some (optP (if x = 0 then some y else none)), some (.ref n), some (.ref (n + 1)), x9]), m.set s (bagO (if x = 0 then C else B)) ++ z) := by
  by_cases hx : x = 0
  · subst hx
    simp [tS5, t1, t2, hz, optP]
  · simp [tS5, t1, hz, optP, hx]
def tS6 : Fs := (sRet (fTup (aCons (fVar 1) (aCons (fBlt vTuple (aCons (fVar 7) aNil)) (aCons (fBlt vTuple (aCons (fVar 8) aNil)) (aCons (fVar 6) (aCons (fCl 2 F_law_take (aCons (fVar 0) (aCons (f2 vAdd (fVar 3) (fC (.int 1))) aNil))) aNil)))))))
theorem tS6_run (s : Nat) (w : List Nat) (x2 x6 : PV) (x4 x5 x9 : Option PV) (n cuts c1 x : Nat) (A B : Bag) (m : Sto) (z1 z2 : List PV) (hn : n = m.length) (hc1 : (cuts : Int) + 1 = (c1 : Nat))
    (t1 : F_law_take [.ref s, .int (c1 : Nat)] (m.set s (bagO A) ++ [.lst z1, .lst z2]) = some (.int (x : Nat), m.set s (bagO B) ++ [.lst z1, .lst z2])) :
    tS6 [some (.ref s), some (.str w), some x2, some (.int (cuts : Nat)), x4, x5, some x6, some (.ref n), some (.ref (n + 1)), x9] (m.set s (bagO A) ++ [.lst z1, .lst z2]) =
      some (.ok (.ret (.tup [.str w, .tup z1, .tup z2, x6, .int (x : Nat)])), m.set s (bagO B) ++ [.lst z1, .lst z2]) := by
  have v1 : vTuple [.ref n] (m.set s (bagO A) ++ [.lst z1, .lst z2]) = some (.tup z1) := by
    have : n = (m.set s (bagO A)).length := by simp [hn]
    rw [v_tupR, this, app_get0]; rfl
  have v2 : vTuple [.ref (n + 1)] (m.set s (bagO A) ++ [.lst z1, .lst z2]) = some (.tup z2) := by
    have : n = (m.set s (bagO A)).length := by simp [hn]
    rw [v_tupR, this, app_get]; rfl
  simp [tS6, hc1, t1, ↓v1, ↓v2, tup_small]
def tS0 : Fs := (sPar [7, 8] (aCons (fAlloc (lDisp aNil)) (aCons (fAlloc (lDisp aNil)) aNil)))
noncomputable def tS1 : Fs := (sFor (iRng1 (aCons (f2 vAdd (fC (.int 1)) (fCl 2 F_law_take (aCons (fVar 0) (aCons (fVar 2) aNil)))) aNil)) (.nm 4) tB1)
noncomputable def tS3 : Fs := (sFor (iRng1 (aCons (fBlt vLen (aCons (fVar 7) aNil)) aNil)) (.nm 4) tB2)
theorem task_is : m_law_task = sSeq tS0 (sSeq tS1 (sSeq (sAsg (.nm 5) (fC (.int 0))) (sSeq tS3 (sSeq tS5 tS6)))) := rfl
theorem tS0_run (a b c d : PV) (M : Sto) : tS0 [some a, some b, some c, some d, none, none, none, none, none, none] M = some (.ok (.next [some a, some b, some c, some d, none, none, none, some (.ref M.length), some (.ref (M.length + 1)), none]), M ++ [.lst [], .lst []]) := by
  simp [tS0, tup_small]
theorem tS1_run (s : Nat) (x1 x3 : PV) (x4 x5 x6 x7 x8 x9 : Option PV) (carries x : Nat) (A B : Bag) (m z : Sto) (hx : x ≤ 1000) (t1 : F_law_take [.ref s, .int (carries : Nat)] (m.set s (bagO A) ++ z) = some (.int (x : Nat), m.set s (bagO B) ++ z)) :
    tS1 [some (.ref s), some x1, some (.int (carries : Nat)), some x3, x4, x5, x6, x7, x8, x9] (m.set s (bagO A) ++ z) = loopF ⟨rangeP 0 ((1 + x : Nat) : Int), []⟩ (.nm 4) tB1 (rangeP 0 ((1 + x : Nat) : Int)) [some (.ref s), some x1, some (.int (carries : Nat)), some x3, x4, x5, x6, x7, x8, x9] (m.set s (bagO B) ++ z) := by
  have h := small_nat (n := 1 + x) (by omega)
  rw [Int.natCast_add] at h
  simp only [Int.natCast_one] at h
  simp [tS1, t1, h]
theorem tS3_run (r : Mini.Env) (n k : Nat) (zs : List PV) (M : Sto) (h7 : r[7]? = some (some (.ref n))) (hk : zs.length = k) (hkl : k ≤ 10000) (hM : M[n]? = some (.lst zs)) :
    tS3 r M = loopF ⟨rangeP 0 (k : Int), []⟩ (.nm 4) tB2 (rangeP 0 (k : Int)) r M := by
  have h := small_nat (n := k) (by omega)
  simp [tS3, h7, hM, hk, h]
theorem natP_range (k : Nat) : rangeP 0 (k : Int) = (List.range' 0 k).map natP := by
  rw [rangeP_nat, List.range_eq_range']
  rfl
theorem pures_pairs : ∀ ps : List (Nat × Nat), pures? 48 (ps.map pairP) = true
  | [] => by simp [pures?]
  | p :: ps => by simp [pures?, pure?, pairP, pures_pairs ps]
theorem pures_nats : ∀ ps : List Nat, pures? 48 (ps.map natP) = true
  | [] => by simp [pures?]
  | p :: ps => by simp [pures?, pure?, natP, pures_nats ps]
theorem taskP_pure (T : Task) : pure? deepest (taskP T) = true := by
  show pures? 49 [_, _, _, _, _] = true
  have : pure? 49 (optP T.last) = true := by cases T.last <;> rfl
  simp [pures?, pure?, pures_pairs, pures_nats, this]
theorem sim_law_task : Sim 10 4 m_law_task F_law_task := Sim.bg fun s A ys m v A' hl hs hcs hf => by
  split at hf
  case h_2 => cases hf
  rename_i w carries cuts
  split at hf
  case isFalse => cases hf
  rename_i hc
  simp only [Option.some.injEq, Prod.mk.injEq] at hf
  obtain ⟨rfl, rfl⟩ := hf
  obtain ⟨h2, hcap, h3, h4, h5, h6⟩ := hc
  obtain ⟨carries, rfl⟩ := Int.eq_ofNat_of_zero_le (Int.le_of_lt h3)
  obtain ⟨cuts, rfl⟩ := Int.eq_ofNat_of_zero_le h5
  simp only [Int.toNat_natCast]
  have hcap' : cap = 600 := rfl
  have hz : sizeLine = 16777216 := rfl
  have t1 := tk_runz hs A hcs carries (by omega) (by omega) [.lst [], .lst []]
  have hlt := tkN_lt A (n := carries) (by omega)
  have r1 := tS1_run s (.str w) (.int (cuts : Nat)) none none none (some (.ref m.length)) (some (.ref (m.length + 1))) none carries _ A _ m [.lst [], .lst []] (by omega) t1
  have hrl : (rangeP 0 ((1 + tkN A carries : Nat) : Int)).length = 1 + tkN A carries := by rw [rangeP_nat]; simp
  obtain ⟨x4, x9, l1⟩ := tL1 s w (.int (carries : Nat)) (.int (cuts : Nat)) ⟨rangeP 0 ((1 + tkN A carries : Nat) : Int), []⟩ (fun m => ok_nil) m.length m rfl hs [] h2 hcap (rangeP 0 ((1 + tkN A carries : Nat) : Int)) (tkB A carries) [] none none (by simpa using hcs) (by rw [hrl]; simp; omega)
  rw [hrl] at l1
  have hpl := pairs_len w.length (1 + tkN A carries) (tkB A carries)
  have hpc := pairs_cs w.length (1 + tkN A carries) (tkB A carries)
  rw [List.nil_append] at l1
  have hM : (m.set s (bagO (pairsB w.length (1 + tkN A carries) (tkB A carries)).2) ++ [Ob.lst ((pairsB w.length (1 + tkN A carries) (tkB A carries)).1.map pairP), .lst []])[m.length]? = some (.lst ((pairsB w.length (1 + tkN A carries) (tkB A carries)).1.map pairP)) := by
    rw [List.getElem?_append_right (by simp)]; simp
  obtain ⟨B, hB⟩ : ∃ B, (pairsB w.length (1 + tkN A carries) (tkB A carries)).2 = B := ⟨_, rfl⟩
  have hBc : B.cs.length ≤ 1000 := by rw [← hB, hpc]; simpa using hcs
  have r3 := tS3_run [some (.ref s), some (.str w), some (.int (carries : Nat)), some (.int (cuts : Nat)), x4, some (.int (0 : Nat)), none, some (.ref m.length), some (.ref (m.length + 1)), x9] m.length (1 + tkN A carries) _ _ rfl (by rw [List.length_map]; exact hpl) (by omega) hM
  rw [natP_range] at r3
  obtain ⟨x4', x5', l2⟩ := tL2 s (.str w) (.int (carries : Nat)) (.int (cuts : Nat)) x9 ⟨(List.range' 0 (1 + tkN A carries)).map natP, []⟩ (fun m => ok_nil) m.length m rfl hs ((pairsB w.length (1 + tkN A carries) (tkB A carries)).1.map pairP) (1 + tkN A carries) 0 0 B [] x4 hBc (by simp; omega)
  rw [hB] at r3 l1
  rw [List.nil_append] at l2
  have hgc := groups_cs (1 + tkN A carries) 0 0 B
  obtain ⟨G, hG⟩ : ∃ G, groupsB (1 + tkN A carries) 0 0 B = G := ⟨_, rfl⟩
  rw [hG] at l2 hgc
  have hGc : G.2.cs.length ≤ 1000 := by rw [hgc]; exact hBc
  have t2 : F_law_take [.ref s, .int 2] (m.set s (bagO G.2) ++ [.lst ((pairsB w.length (1 + tkN A carries) (tkB A carries)).1.map pairP), .lst (G.1.map natP)]) = some (.int (tkN G.2 2 : Nat), m.set s (bagO (tkB G.2 2)) ++ [.lst ((pairsB w.length (1 + tkN A carries) (tkB A carries)).1.map pairP), .lst (G.1.map natP)]) := tk_runz hs G.2 hGc 2 (by omega) (by omega) _
  have t3 := tk_runz hs (tkB G.2 2) (by simpa using hGc) w.length (by omega) (by omega) [.lst ((pairsB w.length (1 + tkN A carries) (tkB A carries)).1.map pairP), .lst (G.1.map natP)]
  have r5 := tS5_run s w (.int (carries : Nat)) (.int (cuts : Nat)) x4' x5' x9 m.length _ _ G.2 _ _ m _ (by omega) t2 t3
  have e1 : (if tkN G.2 2 = 0 then some (tkN (tkB G.2 2) w.length) else none) = (lastB w.length G.2).1 := by unfold lastB; split <;> rfl
  have e2 : (if tkN G.2 2 = 0 then tkB (tkB G.2 2) w.length else tkB G.2 2) = (lastB w.length G.2).2 := by unfold lastB; split <;> rfl
  rw [e1, e2] at r5
  have hLc : (lastB w.length G.2).2.cs.length ≤ 1000 := by rw [last_cs]; exact hGc
  have t4 := tk_runz hs (lastB w.length G.2).2 hLc (cuts + 1) (by omega) (by omega) [.lst ((pairsB w.length (1 + tkN A carries) (tkB A carries)).1.map pairP), .lst (G.1.map natP)]
  have r6 := tS6_run s w (.int (carries : Nat)) (optP (lastB w.length G.2).1) x4' x5' x9 m.length cuts (cuts + 1) _ _ _ m _ _ rfl (by omega) t4
  refine ⟨[.lst ((pairsB w.length (1 + tkN A carries) (tkB A carries)).1.map pairP), .lst (G.1.map natP)], taskP (taskB A w carries cuts).1, ?_, frz_pure _ _ _ _ (taskP_pure _)⟩
  rw [task_is]
  have r0 := tS0_run (.ref s) (.str w) (.int (carries : Nat)) (.int (cuts : Nat)) (m.set s (bagO A))
  rw [List.length_set] at r0
  have fin : (taskP (taskB A w carries cuts).1, (taskB A w carries cuts).2) = (PV.tup [.str w, .tup ((pairsB w.length (1 + tkN A carries) (tkB A carries)).1.map pairP), .tup (G.1.map natP), optP (lastB w.length G.2).1, .int (tkN (lastB w.length G.2).2 (cuts + 1) : Nat)], tkB (lastB w.length G.2).2 (cuts + 1)) := by
    unfold taskB taskP
    simp only [hB, hG]
  have f1 := congrArg Prod.fst fin
  have f2 := congrArg Prod.snd fin
  simp only [] at f1 f2
  rw [f1, f2]
  exact seq_next r0 (seq_next (r1.trans l1) (seq_next rfl (seq_next (r3.trans l2) (seq_next r5 r6))))
end K29
namespace K29
open PySem L2 Mini
def xN (k : Nat) : List Nat := 120 :: fg k
def jN (k : Nat) : List Nat := 106 :: fg k
def sRr : List Nat := [114, 114]
def binsN (n : Nat) : List (List Nat × Nat) := (List.range n).map fun k => (xN k, k)
/-- the carries of a group -/
def lotN (ps : List (Nat × Nat)) (gs : List Nat) (g : Int) : List (List Nat × List Nat) := (ps.zipIdx.filter fun q => decide (((gs.getD q.2 0 : Nat) : Int) = g)).map fun q => (xN q.1.1, xN q.1.2)
def lotsN (T : Task) : List (List (List Nat × List Nat)) := (sdd (T.gs.map fun (k : Nat) => (k : Int))).map (lotN T.ps T.gs)
def jobsN (lots : List (List (List Nat × List Nat))) : List (List Nat) := (lots.zipIdx.map fun q => jobL (jN q.2) sRr q.1 none 0).flatten
def textsN (T : Task) (nm : List Nat) : List (List Nat) :=
  ringL sRr T.w (binsN T.w.length) ++ (if (lotsN T).length = 1 then jobL nm sRr ((lotsN T).headD []) T.last T.cuts
    else jobsN (lotsN T) ++ dayL nm sRr ((List.range (lotsN T).length).map jN) T.last T.cuts)
structure TaskOk (T : Task) : Prop where
  w0 : 2 ≤ T.w.length
  w1 : T.w.length < 60
  len : T.ps.length = T.gs.length
  few : T.gs.length < 50
  ps : ∀ q ∈ T.ps, q.1 < 60 ∧ q.2 < 60
  last : ∀ k, T.last = some k → k < 60
  cuts : T.cuts < 60
open Classical in
noncomputable def F_law_texts : Fn := fun xs m => match xs with
  | [x, .str nm] => if h : ∃ T, x = taskP T ∧ TaskOk T ∧ nm.length ≤ cap then some (linesP (textsN h.choose nm), m) else none
  | _ => none
theorem pairP_inj (a b : Nat × Nat) (h : pairP a = pairP b) : a = b := by
  simp only [pairP, PV.tup.injEq, List.cons.injEq, PV.int.injEq, and_true] at h
  exact Prod.ext (by omega) (by omega)
theorem natP_inj (a b : Nat) (h : natP a = natP b) : a = b := by
  simp only [natP, PV.int.injEq] at h
  omega
theorem taskP_inj {T T' : Task} (h : taskP T = taskP T') : T = T' := by
  obtain ⟨w, ps, gs, last, cuts⟩ := T
  obtain ⟨w', ps', gs', last', cuts'⟩ := T'
  simp only [taskP, PV.tup.injEq, List.cons.injEq, PV.str.injEq, PV.int.injEq, and_true] at h
  obtain ⟨h1, h2, h3, h4, h5⟩ := h
  have e2 : ps = ps' := (List.map_inj_right fun a b => pairP_inj a b).mp h2
  have e3 : gs = gs' := (List.map_inj_right fun a b => natP_inj a b).mp h3
  have e4 : last = last' := by
    cases last <;> cases last' <;> simp only [optP, PV.int.injEq, reduceCtorEq] at h4 ⊢
    congr 1
    omega
  have e5 : cuts = cuts' := by omega
  subst h1 e2 e3 e4 e5
  rfl
theorem texts_run {T : Task} {nm : List Nat} (h : TaskOk T) (hn : nm.length ≤ cap) (m : Sto) : F_law_texts [taskP T, .str nm] m = some (linesP (textsN T nm), m) := by
  unfold F_law_texts
  have hx : ∃ T', taskP T = taskP T' ∧ TaskOk T' ∧ nm.length ≤ cap := ⟨T, rfl, h, hn⟩
  simp only []
  rw [dif_pos hx, ← taskP_inj hx.choose_spec.1]
end K29
namespace K29
open PySem L2 Mini
/-- law_texts: slots task 0 name 1 rows 2 ends 3 lots 4 group 5 word 6 carries 7 groups 8 last 9 cuts 10 k 11 lot 12 a 13 b 14 -/
noncomputable def m_law_texts : Fs :=
    (sSeq (sAsg (.tp [(.nm 6), (.nm 7), (.nm 8), (.nm 9), (.nm 10)]) (fVar 0))
    (sSeq (sAsg (.nm 2) (fAlloc (lDisp (aCons (fC (.str [114, 105, 110, 103, 32, 114, 114])) (aCons (f2 vAdd (fC (.str [99, 101, 108, 108, 115, 32])) (fVar 6)) aNil)))))
    (sSeq (sDrop (fBm "list" vExtend (fVar 2) (aCons (f2 vAdd (fLst (lComp (iRng1 (aCons (fBlt vLen (aCons (fVar 6) aNil)) aNil)) (.nm 11) fYes (f2 vAdd (f2 vAdd (f2 vAdd (fC (.str [98, 105, 110, 32, 120])) (fBlt vStr (aCons (fVar 11) aNil))) (fC (.str [32, 97, 116, 32]))) (fBlt vStr (aCons (fVar 11) aNil))) [11])) (fLst (lDisp (aCons (fC (.str [101, 110, 100])) aNil)))) aNil)))
    (sSeq (sAsg (.nm 3) (f2 vAdd (fIf (fTst (f2 (vIs true) (fVar 9) (fC .non))) (fLst (lDisp (aCons (f2 vAdd (fC (.str [108, 97, 115, 116, 32])) (fBlt vStr (aCons (fVar 9) aNil))) aNil))) (fLst (lDisp aNil))) (fLst (lDisp (aCons (f2 vAdd (fC (.str [99, 117, 116, 115, 32])) (fBlt vStr (aCons (fVar 10) aNil))) (aCons (fC (.str [101, 110, 100])) aNil))))))
    (sSeq (sAsg (.nm 4) (fAlloc (lDisp aNil)))
    (sSeq (sFor (iAny (f1 vSortSet (fVar 8))) (.nm 5) (sDrop (fBm "list" vAppend (fVar 4) (aCons (fLst (lComp (iEnumA (aCons (fVar 7) aNil)) (.tp [(.nm 11), (.tp [(.nm 13), (.nm 14)])]) (fTst (f2 vEq (f2 vIx (fVar 8) (fVar 11)) (fVar 5))) (f2 vAdd (f2 vAdd (f2 vAdd (fC (.str [99, 97, 114, 114, 121, 32, 120])) (fBlt vStr (aCons (fVar 13) aNil))) (fC (.str [32, 116, 111, 32, 120]))) (fBlt vStr (aCons (fVar 14) aNil))) [11, 13, 14])) aNil))))
    (sSeq (sIf (fTst (f2 vEq (fBlt vLen (aCons (fVar 4) aNil)) (fC (.int 1)))) (sRet (f2 vAdd (f2 vAdd (f2 vAdd (fVar 2) (fLst (lDisp (aCons (f2 vAdd (f2 vAdd (fC (.str [106, 111, 98, 32])) (fVar 1)) (fC (.str [32, 111, 110, 32, 114, 114]))) aNil)))) (f2 vIx (fVar 4) (fC (.int 0)))) (fVar 3))) sNil)
    (sSeq (sFor (iEnumA (aCons (fVar 4) aNil)) (.tp [(.nm 11), (.nm 12)]) (sDrop (fBm "list" vExtend (fVar 2) (aCons (f2 vAdd (f2 vAdd (fLst (lDisp (aCons (f2 vAdd (f2 vAdd (fC (.str [106, 111, 98, 32, 106])) (fBlt vStr (aCons (fVar 11) aNil))) (fC (.str [32, 111, 110, 32, 114, 114]))) aNil))) (fVar 12)) (fLst (lDisp (aCons (fC (.str [99, 117, 116, 115, 32, 48])) (aCons (fC (.str [101, 110, 100])) aNil))))) aNil))))
    (sRet (f2 vAdd (f2 vAdd (f2 vAdd (fVar 2) (fLst (lDisp (aCons (f2 vAdd (f2 vAdd (fC (.str [100, 97, 121, 32])) (fVar 1)) (fC (.str [32, 111, 110, 32, 114, 114]))) aNil)))) (fLst (lComp (iRng1 (aCons (fBlt vLen (aCons (fVar 4) aNil)) aNil)) (.nm 11) fYes (f2 vAdd (fC (.str [100, 111, 32, 106])) (fBlt vStr (aCons (fVar 11) aNil))) [11]))) (fVar 3)))))))))))
end K29
namespace K29
open PySem L2 Mini
theorem str_small (k : Nat) (m : Sto) (h : k < 60) : Mini.vStr [.int (k : Nat)] m = some (.str (fg k)) := by
  have := log_small k h
  simp [this, figs_small k h]
theorem fadd {fa fb : Fe} {r : Mini.Env} {m : Sto} {a b : List Nat} (ha : fa r m = some (.ok (.str a), m)) (hb : fb r m = some (.ok (.str b), m)) (h : a.length + b.length ≤ 10000) : f2 vAdd fa fb r m = some (.ok (.str (a ++ b)), m) := by
  have := szl (n := a.length + b.length) (by omega)
  simp [ha, hb, this]
theorem faddL {fa fb : Fe} {r : Mini.Env} {m : Sto} {a b : List (List Nat)} (ha : fa r m = some (.ok (.lst (a.map PV.str)), m)) (hb : fb r m = some (.ok (.lst (b.map PV.str)), m)) (h : a.length + b.length ≤ 100000) : f2 vAdd fa fb r m = some (.ok (.lst ((a ++ b).map PV.str)), m) := by
  have := szl (n := a.length + b.length) (by omega)
  simp [ha, hb, this]
theorem fstr {r : Mini.Env} {m : Sto} {i k : Nat} (h : r[i]? = some (some (.int (k : Nat)))) (hk : k < 60) : fBlt Mini.vStr (aCons (fVar i) aNil) r m = some (.ok (.str (fg k)), m) := by
  have := str_small k m hk
  simp only [e_blt, e_cons, e_nil, e_var, h, Res.bind, this, e_up]
theorem fone {fa : Fe} {r : Mini.Env} {m : Sto} {a : List Nat} (ha : fa r m = some (.ok (.str a), m)) : fLst (lDisp (aCons fa aNil)) r m = some (.ok (.lst ([a].map PV.str)), m) := by
  simp [ha, tup_small]
def xS1 : Fs := (sAsg (.tp [(.nm 6), (.nm 7), (.nm 8), (.nm 9), (.nm 10)]) (fVar 0))
def xS2 : Fs := (sAsg (.nm 2) (fAlloc (lDisp (aCons (fC (.str [114, 105, 110, 103, 32, 114, 114])) (aCons (f2 vAdd (fC (.str [99, 101, 108, 108, 115, 32])) (fVar 6)) aNil)))))
noncomputable def xS3 : Fs := (sDrop (fBm "list" vExtend (fVar 2) (aCons (f2 vAdd (fLst (lComp (iRng1 (aCons (fBlt vLen (aCons (fVar 6) aNil)) aNil)) (.nm 11) fYes (f2 vAdd (f2 vAdd (f2 vAdd (fC (.str [98, 105, 110, 32, 120])) (fBlt Mini.vStr (aCons (fVar 11) aNil))) (fC (.str [32, 97, 116, 32]))) (fBlt Mini.vStr (aCons (fVar 11) aNil))) [11])) (fLst (lDisp (aCons (fC (.str [101, 110, 100])) aNil)))) aNil)))
def xS4 : Fs := (sAsg (.nm 3) (f2 vAdd (fIf (fTst (f2 (vIs true) (fVar 9) (fC .non))) (fLst (lDisp (aCons (f2 vAdd (fC (.str [108, 97, 115, 116, 32])) (fBlt Mini.vStr (aCons (fVar 9) aNil))) aNil))) (fLst (lDisp aNil))) (fLst (lDisp (aCons (f2 vAdd (fC (.str [99, 117, 116, 115, 32])) (fBlt Mini.vStr (aCons (fVar 10) aNil))) (aCons (fC (.str [101, 110, 100])) aNil))))))
def xS5 : Fs := (sAsg (.nm 4) (fAlloc (lDisp aNil)))
noncomputable def xB6 : Fs := (sDrop (fBm "list" vAppend (fVar 4) (aCons (fLst (lComp (iEnumA (aCons (fVar 7) aNil)) (.tp [(.nm 11), (.tp [(.nm 13), (.nm 14)])]) (fTst (f2 vEq (f2 vIx (fVar 8) (fVar 11)) (fVar 5))) (f2 vAdd (f2 vAdd (f2 vAdd (fC (.str [99, 97, 114, 114, 121, 32, 120])) (fBlt Mini.vStr (aCons (fVar 13) aNil))) (fC (.str [32, 116, 111, 32, 120]))) (fBlt Mini.vStr (aCons (fVar 14) aNil))) [11, 13, 14])) aNil)))
noncomputable def xS6 : Fs := (sFor (iAny (f1 vSortSet (fVar 8))) (.nm 5) xB6)
def xS7 : Fs := (sIf (fTst (f2 vEq (fBlt vLen (aCons (fVar 4) aNil)) (fC (.int 1)))) (sRet (f2 vAdd (f2 vAdd (f2 vAdd (fVar 2) (fLst (lDisp (aCons (f2 vAdd (f2 vAdd (fC (.str [106, 111, 98, 32])) (fVar 1)) (fC (.str [32, 111, 110, 32, 114, 114]))) aNil)))) (f2 vIx (fVar 4) (fC (.int 0)))) (fVar 3))) sNil)
def xB8 : Fs := (sDrop (fBm "list" vExtend (fVar 2) (aCons (f2 vAdd (f2 vAdd (fLst (lDisp (aCons (f2 vAdd (f2 vAdd (fC (.str [106, 111, 98, 32, 106])) (fBlt Mini.vStr (aCons (fVar 11) aNil))) (fC (.str [32, 111, 110, 32, 114, 114]))) aNil))) (fVar 12)) (fLst (lDisp (aCons (fC (.str [99, 117, 116, 115, 32, 48])) (aCons (fC (.str [101, 110, 100])) aNil))))) aNil)))
noncomputable def xS8 : Fs := (sFor (iEnumA (aCons (fVar 4) aNil)) (.tp [(.nm 11), (.nm 12)]) xB8)
noncomputable def xS9 : Fs := (sRet (f2 vAdd (f2 vAdd (f2 vAdd (fVar 2) (fLst (lDisp (aCons (f2 vAdd (f2 vAdd (fC (.str [100, 97, 121, 32])) (fVar 1)) (fC (.str [32, 111, 110, 32, 114, 114]))) aNil)))) (fLst (lComp (iRng1 (aCons (fBlt vLen (aCons (fVar 4) aNil)) aNil)) (.nm 11) fYes (f2 vAdd (fC (.str [100, 111, 32, 106])) (fBlt Mini.vStr (aCons (fVar 11) aNil))) [11]))) (fVar 3)))
theorem texts_is : m_law_texts = sSeq xS1 (sSeq xS2 (sSeq xS3 (sSeq xS4 (sSeq xS5 (sSeq xS6 (sSeq xS7 (sSeq xS8 xS9))))))) := rfl
theorem xS1_run (nm w : List Nat) (p g l c : PV) (M : Sto) : xS1 [some (.tup [.str w, p, g, l, c]), some (.str nm), none, none, none, none, none, none, none, none, none, none, none, none, none] M =
    some (.ok (.next [some (.tup [.str w, p, g, l, c]), some (.str nm), none, none, none, none, some (.str w), some p, some g, some l, some c, none, none, none, none]), M) := by
  simp [xS1]
theorem xS2_run (t nm p g l c : PV) (w : List Nat) (hw : w.length ≤ 1000) (M : Sto) : xS2 [some t, some nm, none, none, none, none, some (.str w), some p, some g, some l, some c, none, none, none, none] M =
    some (.ok (.next [some t, some nm, some (.ref M.length), none, none, none, some (.str w), some p, some g, some l, some c, none, none, none, none]), M ++ [.lst ([wRing ++ sRr, wCells ++ w].map PV.str)]) := by
  have h : 6 + w.length ≤ sizeLine := szl (by omega)
  simp [xS2, tup_small, h, wRing, sRr, wCells]
theorem bins_loop (t nm x2 p g l c : PV) (w : List Nat) (hw : w.length < 60) (M : Sto) :
    loopC ⟨rangeP 0 (w.length : Nat), []⟩ (.nm 11) fYes (f2 vAdd (f2 vAdd (f2 vAdd (fC (.str [98, 105, 110, 32, 120])) (fBlt Mini.vStr (aCons (fVar 11) aNil))) (fC (.str [32, 97, 116, 32]))) (fBlt Mini.vStr (aCons (fVar 11) aNil))) [11]
      [some t, some nm, some x2, none, none, none, some (.str w), some p, some g, some l, some c, none, none, none, none] (rangeP 0 (w.length : Nat)) M [] = some (.ok (((binsN w.length).map binL).map PV.str), M) := by
  have lp := loopC_map (src := ⟨rangeP 0 (w.length : Nat), []⟩) (tg := .nm 11) (fe := (f2 vAdd (f2 vAdd (f2 vAdd (fC (.str [98, 105, 110, 32, 120])) (fBlt Mini.vStr (aCons (fVar 11) aNil))) (fC (.str [32, 97, 116, 32]))) (fBlt Mini.vStr (aCons (fVar 11) aNil)))) (vs := [11])
    (r := [some t, some nm, some x2, none, none, none, some (.str w), some p, some g, some l, some c, none, none, none, none]) (m := M) ok_nil (fun x => match x with | .int k => .str (binL (xN k.toNat, k.toNat)) | _ => .non) (rangeP 0 (w.length : Nat)) [] (by rw [rangeP_nat]; simp; exact szl (by omega)) fun x hx => by
      rw [rangeP_nat] at hx
      obtain ⟨k, hk, rfl⟩ := List.mem_map.mp hx
      have hk6 : k < 60 := by have := List.mem_range.mp hk; omega
      refine ⟨[some t, some nm, some x2, none, none, none, some (.str w), some p, some g, some l, some c, some (.int (k : Nat)), none, none, none], by simp [wipeE], ?_⟩
      have hl := fg_len k
      have := fadd (fadd (fadd (a := [98, 105, 110, 32, 120]) (fa := fC (.str [98, 105, 110, 32, 120])) (r := [some t, some nm, some x2, none, none, none, some (.str w), some p, some g, some l, some c, some (.int (k : Nat)), none, none, none]) (m := M) rfl (fstr (i := 11) rfl hk6) (by simp; omega)) (b := [32, 97, 116, 32]) (fb := fC (.str [32, 97, 116, 32])) rfl (by simp; omega)) (fstr (i := 11) rfl hk6) (by simp; omega)
      rw [this]
      simp [binL, xN, wBin, wAt]
  rw [lp, rangeP_nat]
  unfold binsN
  rw [List.map_map, List.map_map, List.map_map]
  rfl
theorem ext_z (M z : Sto) {n : Nat} (i : Nat) (hn : n = M.length + i) (xs zs : List PV) (hz : z[i]? = some (.lst xs)) (hl : xs.length + zs.length ≤ sizeLine) : vExtend (.ref n) [.lst zs] (M ++ z) = some (.non, M ++ z.set i (.lst (xs ++ zs))) := by
  subst hn
  simp [vExtend, app_get, hz, hl, app_set]
theorem xS3_run (t nm p g l c : PV) (w : List Nat) (hw : w.length < 60) (M : Sto) (rows : List (List Nat)) (hr : rows.length ≤ 1000) : xS3 [some t, some nm, some (.ref M.length), none, none, none, some (.str w), some p, some g, some l, some c, none, none, none, none] (M ++ [.lst (rows.map PV.str)]) =
    some (.ok (.next [some t, some nm, some (.ref M.length), none, none, none, some (.str w), some p, some g, some l, some c, none, none, none, none]), M ++ [.lst ((rows ++ ((binsN w.length).map binL ++ [sEnd])).map PV.str)]) := by
  have lp := bins_loop t nm (.ref M.length) p g l c w hw (M ++ [.lst (rows.map PV.str)])
  have hbl : (binsN w.length).length = w.length := by simp [binsN]
  have hsm := small_nat (n := w.length) (by omega)
  have hwz : w.length ≤ sizeLine := szl (by omega)
  have c1 : fLst (lComp (iRng1 (aCons (fBlt vLen (aCons (fVar 6) aNil)) aNil)) (.nm 11) fYes (f2 vAdd (f2 vAdd (f2 vAdd (fC (.str [98, 105, 110, 32, 120])) (fBlt Mini.vStr (aCons (fVar 11) aNil))) (fC (.str [32, 97, 116, 32]))) (fBlt Mini.vStr (aCons (fVar 11) aNil))) [11])
      [some t, some nm, some (.ref M.length), none, none, none, some (.str w), some p, some g, some l, some c, none, none, none, none] (M ++ [.lst (rows.map PV.str)]) = some (.ok (.lst (((binsN w.length).map binL).map PV.str)), M ++ [.lst (rows.map PV.str)]) := by
    simp [hsm, hwz, lp]
  have c2 := faddL c1 (fone (fa := fC (.str [101, 110, 100])) (a := sEnd) rfl) (by simp [hbl]; omega)
  have ck := chk_z M [.lst (rows.map PV.str)] (n := M.length) 0 rfl (rows.map PV.str) rfl
  have ex := ext_z M [.lst (rows.map PV.str)] (n := M.length) 0 rfl (rows.map PV.str) (((binsN w.length).map binL ++ [sEnd]).map PV.str) rfl (by simp [hbl]; exact szl (by omega))
  rw [List.set_cons_zero, ← List.map_append] at ex
  obtain ⟨q, hq⟩ : ∃ q, ((binsN w.length).map binL ++ [sEnd]).map PV.str = q := ⟨_, rfl⟩
  rw [hq] at c2 ex
  simp only [xS3, e_drop, e_bm, e_bind, e_var, List.getElem?_cons_succ, List.getElem?_cons_zero, ck, if_true, e_cons, e_nil, c2, ex, e_upS]
theorem xS4_run (t nm x2 p g w : PV) (l : Option Nat) (c : Nat) (hl : ∀ k, l = some k → k < 60) (hc : c < 60) (M : Sto) : xS4 [some t, some nm, some x2, none, none, none, some w, some p, some g, some (optP l), some (.int (c : Nat)), none, none, none, none] M =
    some (.ok (.next [some t, some nm, some x2, some (linesP (endL l c)), none, none, some w, some p, some g, some (optP l), some (.int (c : Nat)), none, none, none, none]), M) := by
  have lc := fg_len c
  have two : ∀ r, r[10]? = some (some (.int (c : Nat))) → fLst (lDisp (aCons (f2 vAdd (fC (.str [99, 117, 116, 115, 32])) (fBlt Mini.vStr (aCons (fVar 10) aNil))) (aCons (fC (.str [101, 110, 100])) aNil))) r M = some (.ok (.lst ([wCuts ++ fg c, sEnd].map PV.str)), M) := fun r hr => by
    have := fadd (fa := fC (.str [99, 117, 116, 115, 32])) (a := [99, 117, 116, 115, 32]) (r := r) (m := M) rfl (fstr (i := 10) hr hc) (by simp; omega)
    simp only [e_lst, e_disp, e_cons, e_nil, this, e_C, e_bind, List.length_cons, List.length_nil, tup_small (n := 0 + 1 + 1) (by decide), if_true]
    rfl
  cases l with
  | none =>
    have hn : fIf (fTst (f2 (vIs true) (fVar 9) (fC .non))) (fLst (lDisp (aCons (f2 vAdd (fC (.str [108, 97, 115, 116, 32])) (fBlt Mini.vStr (aCons (fVar 9) aNil))) aNil))) (fLst (lDisp aNil)) [some t, some nm, some x2, none, none, none, some w, some p, some g, some (optP none), some (.int (c : Nat)), none, none, none, none] M = some (.ok (.lst (([] : List (List Nat)).map PV.str)), M) := by
      simp [vIs, Mini.isNon, optP]
    have := faddL hn (two _ rfl) (by simp)
    simp only [xS4, e_asg, e_bind, this, e_put]
    rfl
  | some k =>
    have hk := hl k rfl
    have lk := fg_len k
    have h1 := fadd (fa := fC (.str [108, 97, 115, 116, 32])) (a := [108, 97, 115, 116, 32]) (r := [some t, some nm, some x2, none, none, none, some w, some p, some g, some (optP (some k)), some (.int (c : Nat)), none, none, none, none]) (m := M) rfl (fstr (i := 9) rfl hk) (by simp; omega)
    have hn : fIf (fTst (f2 (vIs true) (fVar 9) (fC .non))) (fLst (lDisp (aCons (f2 vAdd (fC (.str [108, 97, 115, 116, 32])) (fBlt Mini.vStr (aCons (fVar 9) aNil))) aNil))) (fLst (lDisp aNil)) [some t, some nm, some x2, none, none, none, some w, some p, some g, some (optP (some k)), some (.int (c : Nat)), none, none, none, none] M = some (.ok (.lst ([wLast ++ fg k].map PV.str)), M) := by
      have f1 := fone h1
      have ht : fTst (f2 (vIs true) (fVar 9) (fC .non)) [some t, some nm, some x2, none, none, none, some w, some p, some g, some (optP (some k)), some (.int (c : Nat)), none, none, none, none] M = some (.ok true, M) := by
        simp [vIs, Mini.isNon, optP]
      simp only [e_if, ht, e_bind, if_true, f1]
      rfl
    have := faddL hn (two _ rfl) (by simp)
    simp only [xS4, e_asg, e_bind, this, e_put]
    rfl
end K29
namespace K29
open PySem L2 Mini
theorem zipIdx_map' {α β : Type} (f : α → β) : ∀ (xs : List α) (n : Nat), (xs.map f).zipIdx n = (xs.zipIdx n).map fun q => (f q.1, q.2)
  | [], n => rfl
  | x :: xs, n => by simp [List.zipIdx_cons, zipIdx_map' f xs]
def itP (q : (Nat × Nat) × Nat) : PV := .tup [.int (q.2 : Nat), pairP q.1]
def lotPV (lot : List (List Nat × List Nat)) : PV := linesP (lot.map carL)
theorem mem_zipIdx {α : Type} {xs : List α} {q : α × Nat} (h : q ∈ xs.zipIdx) : q.1 ∈ xs ∧ q.2 < xs.length ∧ xs[q.2]? = some q.1 := by
  obtain ⟨i, hi⟩ := List.getElem?_of_mem h
  rw [List.getElem?_zipIdx, Option.map_eq_some_iff] at hi
  obtain ⟨a, ha, rfl⟩ := hi
  simp only [Nat.zero_add]
  exact ⟨List.mem_of_getElem? ha, (List.getElem?_eq_some_iff.mp ha).1, ha⟩
theorem comp6 (t nm x2 x3 x4 w l c : PV) (x12 : Option PV) (ps : List (Nat × Nat)) (gs : List Nat) (g : Int) (hlen : ps.length = gs.length) (hf : gs.length < 50) (hps : ∀ q ∈ ps, q.1 < 60 ∧ q.2 < 60) (M : Sto) :
    fLst (lComp (iEnumA (aCons (fVar 7) aNil)) (.tp [(.nm 11), (.tp [(.nm 13), (.nm 14)])]) (fTst (f2 vEq (f2 vIx (fVar 8) (fVar 11)) (fVar 5))) (f2 vAdd (f2 vAdd (f2 vAdd (fC (.str [99, 97, 114, 114, 121, 32, 120])) (fBlt Mini.vStr (aCons (fVar 13) aNil))) (fC (.str [32, 116, 111, 32, 120]))) (fBlt Mini.vStr (aCons (fVar 14) aNil))) [11, 13, 14])
      [some t, some nm, some x2, some x3, some x4, some (.int g), some w, some (.tup (ps.map pairP)), some (.tup (gs.map natP)), some l, some c, none, x12, none, none] M = some (.ok (lotPV (lotN ps gs g)), M) := by
  have items : ((ps.map pairP).zipIdx.map fun q => PV.tup [.int q.2, q.1]) = ps.zipIdx.map itP := by
    rw [zipIdx_map', List.map_map]
    rfl
  have lp := loopC_filter (src := ⟨ps.zipIdx.map itP, []⟩) (tg := .tp [(.nm 11), (.tp [(.nm 13), (.nm 14)])]) (ft := (fTst (f2 vEq (f2 vIx (fVar 8) (fVar 11)) (fVar 5)))) (fe := (f2 vAdd (f2 vAdd (f2 vAdd (fC (.str [99, 97, 114, 114, 121, 32, 120])) (fBlt Mini.vStr (aCons (fVar 13) aNil))) (fC (.str [32, 116, 111, 32, 120]))) (fBlt Mini.vStr (aCons (fVar 14) aNil)))) (vs := [11, 13, 14])
    (r := [some t, some nm, some x2, some x3, some x4, some (.int g), some w, some (.tup (ps.map pairP)), some (.tup (gs.map natP)), some l, some c, none, x12, none, none]) (m := M) ok_nil
    (fun x => match x with | .tup [.int k, _] => decide (((gs.getD k.toNat 0 : Nat) : Int) = g) | _ => false) (fun x => match x with | .tup [_, .tup [.int a, .int b]] => .str (carL (xN a.toNat, xN b.toNat)) | _ => .non) (ps.zipIdx.map itP) [] (by simp; exact szl (by omega)) fun x hx => by
      obtain ⟨⟨⟨a, b⟩, k⟩, hq, rfl⟩ := List.mem_map.mp hx
      obtain ⟨h1, h2, h3⟩ := mem_zipIdx hq
      obtain ⟨ha, hb⟩ := hps _ h1
      simp only [] at h2 ha hb
      have hk : k < gs.length := by omega
      have hat : atI (gs.map natP) (k : Nat) = some (.int ((gs.getD k 0 : Nat) : Int)) := by
        rw [at_nat]
        simp [natP, List.getD, hk]
      have la := fg_len a
      have lb := fg_len b
      refine ⟨[some t, some nm, some x2, some x3, some x4, some (.int g), some w, some (.tup (ps.map pairP)), some (.tup (gs.map natP)), some l, some c, some (.int (k : Nat)), x12, some (.int (a : Nat)), some (.int (b : Nat))], by simp [wipeE, itP, pairP], ?_, fun _ => ?_⟩
      · simp only [e_tst, e_2, e_var, e_bind, List.getElem?_cons_succ, List.getElem?_cons_zero, v_ixT, hat, e_up, eq_int, itP, Int.toNat_natCast]
      · have := fadd (fadd (fadd (a := [99, 97, 114, 114, 121, 32, 120]) (fa := fC (.str [99, 97, 114, 114, 121, 32, 120])) (r := [some t, some nm, some x2, some x3, some x4, some (.int g), some w, some (.tup (ps.map pairP)), some (.tup (gs.map natP)), some l, some c, some (.int (k : Nat)), x12, some (.int (a : Nat)), some (.int (b : Nat))]) (m := M) rfl (fstr (i := 13) rfl ha) (by simp; omega)) (b := [32, 116, 111, 32, 120]) (fb := fC (.str [32, 116, 111, 32, 120])) rfl (by simp; omega)) (fstr (i := 14) rfl hb) (by simp; omega)
        rw [this]
        simp [itP, pairP, carL, xN, wCarry, wTo]
  have mm : ((ps.zipIdx.map itP).filter (fun x => match x with | .tup [.int k, _] => decide (((gs.getD k.toNat 0 : Nat) : Int) = g) | _ => false)).map (fun x => match x with | .tup [_, .tup [.int a, .int b]] => PV.str (carL (xN a.toNat, xN b.toNat)) | _ => .non) = ((lotN ps gs g).map carL).map PV.str := by
    unfold lotN
    rw [List.filter_map, List.map_map, List.map_map, List.map_map]
    rfl
  rw [mm, List.nil_append] at lp
  have hen : iEnumA (aCons (fVar 7) aNil) [some t, some nm, some x2, some x3, some x4, some (.int g), some w, some (.tup (ps.map pairP)), some (.tup (gs.map natP)), some l, some c, none, x12, none, none] M = some (.ok ⟨ps.zipIdx.map itP, []⟩, M) := by
    rw [← items]
    simp
  simp only [e_lst, e_lcomp, hen, e_bind, lp]
  rfl
theorem xL6 (t nm x3 w l c : PV) (x12 : Option PV) (ps : List (Nat × Nat)) (gs : List Nat) (hlen : ps.length = gs.length) (hf : gs.length < 50) (hps : ∀ q ∈ ps, q.1 < 60 ∧ q.2 < 60) (m : Sto) (rows : PV) (ro : Ob) (src : Src) (hsrc : ∀ m, src.ok m) : ∀ (gg : List Int) (acc : List PV) (x5 : Option PV), acc.length + gg.length ≤ 10000 →
    ∃ x5', loopF src (.nm 5) xB6 (gg.map PV.int) [some t, some nm, some rows, some x3, some (.ref (m.length + 1)), x5, some w, some (.tup (ps.map pairP)), some (.tup (gs.map natP)), some l, some c, none, x12, none, none] (m ++ [ro, .lst acc]) =
      some (.ok (.next [some t, some nm, some rows, some x3, some (.ref (m.length + 1)), x5', some w, some (.tup (ps.map pairP)), some (.tup (gs.map natP)), some l, some c, none, x12, none, none]), m ++ [ro, .lst (acc ++ gg.map fun g => lotPV (lotN ps gs g))])
  | [], acc, x5, hl => ⟨x5, by rw [List.map_nil, loopF_0 (hsrc _)]; simp⟩
  | g :: gg, acc, x5, hl => by
    simp only [List.length_cons] at hl
    obtain ⟨x5', ih⟩ := xL6 t nm x3 w l c x12 ps gs hlen hf hps m rows ro src hsrc gg (acc ++ [lotPV (lotN ps gs g)]) (some (.int g)) (by simp; omega)
    refine ⟨x5', ?_⟩
    rw [List.map_cons, loopF_e (hsrc _)]
    have c6 := comp6 t nm rows x3 (.ref (m.length + 1)) w l c x12 ps gs g hlen hf hps (m ++ [ro, .lst acc])
    have ck := chk_z m [ro, .lst acc] (n := m.length + 1) 1 rfl acc rfl
    have ap := app_z m [ro, .lst acc] (n := m.length + 1) 1 rfl acc (lotPV (lotN ps gs g)) rfl (by have : sizeLine = 16777216 := rfl; omega)
    simp only [List.set_cons_zero, List.set_cons_succ] at ap
    have b : xB6 [some t, some nm, some rows, some x3, some (.ref (m.length + 1)), some (.int g), some w, some (.tup (ps.map pairP)), some (.tup (gs.map natP)), some l, some c, none, x12, none, none] (m ++ [ro, .lst acc]) = some (.ok (.next [some t, some nm, some rows, some x3, some (.ref (m.length + 1)), some (.int g), some w, some (.tup (ps.map pairP)), some (.tup (gs.map natP)), some l, some c, none, x12, none, none]), m ++ [ro, .lst (acc ++ [lotPV (lotN ps gs g)])]) := by
      simp only [xB6, e_drop, e_bm, e_bind, e_var, List.getElem?_cons_succ, List.getElem?_cons_zero, ck, if_true, e_cons, e_nil, c6, ap, e_upS]
    simp only [e_put, List.set_cons_succ, List.set_cons_zero, b, Res.bind]
    rw [ih]
    simp
end K29
namespace K29
open PySem L2 Mini
theorem natP_ints (gs : List Nat) : gs.map natP = (gs.map fun (k : Nat) => (k : Int)).map PV.int := by
  rw [List.map_map]
  rfl
theorem xS6_run (t nm x2 x3 x4 w p l c : PV) (gs : List Nat) (hf : gs.length < 50) (M : Sto) : xS6 [some t, some nm, some x2, some x3, some x4, none, some w, some p, some (.tup (gs.map natP)), some l, some c, none, none, none, none] M =
    loopF ⟨(sdd (gs.map fun (k : Nat) => (k : Int))).map PV.int, []⟩ (.nm 5) xB6 ((sdd (gs.map fun (k : Nat) => (k : Int))).map PV.int) [some t, some nm, some x2, some x3, some x4, none, some w, some p, some (.tup (gs.map natP)), some l, some c, none, none, none, none] M := by
  have h : ∀ M, vSortSet (.tup (gs.map natP)) M = some (.lst ((sdd (gs.map fun (k : Nat) => (k : Int))).map PV.int)) := fun M => by
    rw [natP_ints]
    unfold vSortSet
    simp only [intsOf_map, List.length_map]
    rw [if_pos (by omega)]
  simp only [xS6, e_for, e_any, e_1, e_var, e_bind, List.getElem?_cons_succ, List.getElem?_cons_zero, h, e_up, srcA_L]
theorem faddR {fa fb : Fe} {r : Mini.Env} {m : Sto} {n : Nat} {a b : List (List Nat)} (ha : fa r m = some (.ok (.ref n), m)) (hm : m[n]? = some (.lst (a.map PV.str))) (hb : fb r m = some (.ok (.lst (b.map PV.str)), m)) (h : a.length + b.length ≤ 100000) : f2 vAdd fa fb r m = some (.ok (.lst ((a ++ b).map PV.str)), m) := by
  have := szl (n := a.length + b.length) (by omega)
  simp [ha, hb, hm, this]
theorem xS7_no (t nm x2 x3 x5 w p g l c : PV) (e5 : Option PV) (n : Nat) (lots : List PV) (M : Sto) (hM : M[n]? = some (.lst lots)) (h1 : lots.length ≠ 1) : xS7 [some t, some nm, some x2, some x3, some (.ref n), e5, some w, some p, some g, some l, some c, none, none, none, none] M =
    some (.ok (.next [some t, some nm, some x2, some x3, some (.ref n), e5, some w, some p, some g, some l, some c, none, none, none, none]), M) := by
  have : ¬ (lots.length : Int) = 1 := by omega
  simp [xS7, hM, this]
theorem job_line (k0 : List Nat) (nm : List Nat) (r : Mini.Env) (M : Sto) (i : Nat) (hr : r[i]? = some (some (.str nm))) (hn : nm.length ≤ 1000) (hk : k0.length ≤ 10) :
    f2 vAdd (f2 vAdd (fC (.str k0)) (fVar i)) (fC (.str [32, 111, 110, 32, 114, 114])) r M = some (.ok (.str (k0 ++ nm ++ [32, 111, 110, 32, 114, 114])), M) :=
  fadd (fadd rfl (by simp only [e_var, hr]) (by omega)) rfl (by simp; omega)
theorem xS7_yes (t x5 w p g l c : PV) (e5 : Option PV) (nm : List Nat) (n n1 : Nat) (rows : List (List Nat)) (lot : List (List Nat × List Nat)) (last : Option Nat) (cuts : Nat) (M : Sto) (hM : M[n1]? = some (.lst [lotPV lot])) (hR : M[n]? = some (.lst (rows.map PV.str))) (hn : nm.length ≤ 1000)
    (hr : rows.length ≤ 1000) (hl : lot.length ≤ 1000) : xS7 [some t, some (.str nm), some (.ref n), some (linesP (endL last cuts)), some (.ref n1), e5, some w, some p, some g, some l, some c, none, none, none, none] M =
    some (.ok (.ret (linesP (rows ++ jobL nm sRr lot last cuts))), M) := by
  have ht : fTst (f2 vEq (fBlt vLen (aCons (fVar 4) aNil)) (fC (.int 1))) [some t, some (.str nm), some (.ref n), some (linesP (endL last cuts)), some (.ref n1), e5, some w, some p, some g, some l, some c, none, none, none, none] M = some (.ok true, M) := by
    simp [hM]
  have el := end_len last cuts
  have j1 := fone (job_line [106, 111, 98, 32] nm [some t, some (.str nm), some (.ref n), some (linesP (endL last cuts)), some (.ref n1), e5, some w, some p, some g, some l, some c, none, none, none, none] M 1 rfl hn (by decide))
  have a1 := faddR (fa := fVar 2) rfl hR j1 (by simp; omega)
  have h4 : f2 vIx (fVar 4) (fC (.int 0)) [some t, some (.str nm), some (.ref n), some (linesP (endL last cuts)), some (.ref n1), e5, some w, some p, some g, some l, some c, none, none, none, none] M = some (.ok (.lst ((lot.map carL).map PV.str)), M) := by
    simp only [e_2, e_var, e_C, e_bind, List.getElem?_cons_succ, List.getElem?_cons_zero, v_ixR, hM, at_0, e_up]
    rfl
  have a2 := faddL a1 h4 (by simp; omega)
  have a3 := faddL (fb := fVar 3) a2 (b := endL last cuts) rfl (by simp; omega)
  simp only [xS7, e_sIf, ht, e_bind, if_true, e_ret, a3]
  have e : rows ++ [[106, 111, 98, 32] ++ nm ++ [32, 111, 110, 32, 114, 114]] ++ lot.map carL ++ endL last cuts = rows ++ jobL nm sRr lot last cuts := by
    simp [jobL, headL, sJ, wOn, sRr]
  rw [e]
  rfl
theorem xB8_run (t nm x3 w p g l c : PV) (e5 : Option PV) (n n1 k : Nat) (hk : k < 60) (lot : List (List Nat × List Nat)) (hl : lot.length ≤ 1000) (m : Sto) (hn : n = m.length) (rows : List (List Nat)) (hr : rows.length ≤ 100000) (lo : Ob) (x13 x14 : Option PV) :
    xB8 [some t, some nm, some (.ref n), some x3, some (.ref n1), e5, some w, some p, some g, some l, some c, some (.int (k : Nat)), some (lotPV lot), x13, x14] (m ++ [.lst (rows.map PV.str), lo]) =
      some (.ok (.next [some t, some nm, some (.ref n), some x3, some (.ref n1), e5, some w, some p, some g, some l, some c, some (.int (k : Nat)), some (lotPV lot), x13, x14]), m ++ [.lst ((rows ++ jobL (jN k) sRr lot none 0).map PV.str), lo]) := by
  have lk := fg_len k
  have h1 := fone (fadd (fadd (fa := fC (.str [106, 111, 98, 32, 106])) (a := [106, 111, 98, 32, 106]) (r := [some t, some nm, some (.ref n), some x3, some (.ref n1), e5, some w, some p, some g, some l, some c, some (.int (k : Nat)), some (lotPV lot), x13, x14]) (m := m ++ [.lst (rows.map PV.str), lo]) rfl (fstr (i := 11) rfl hk) (by simp; omega)) (fb := fC (.str [32, 111, 110, 32, 114, 114])) (b := [32, 111, 110, 32, 114, 114]) rfl (by simp; omega))
  have h2 := faddL h1 (fb := fVar 12) (b := lot.map carL) rfl (by simp; omega)
  have h3 : fLst (lDisp (aCons (fC (.str [99, 117, 116, 115, 32, 48])) (aCons (fC (.str [101, 110, 100])) aNil))) [some t, some nm, some (.ref n), some x3, some (.ref n1), e5, some w, some p, some g, some l, some c, some (.int (k : Nat)), some (lotPV lot), x13, x14] (m ++ [.lst (rows.map PV.str), lo]) = some (.ok (.lst (([[99, 117, 116, 115, 32, 48], [101, 110, 100]] : List (List Nat)).map PV.str)), m ++ [.lst (rows.map PV.str), lo]) := by
    simp [tup_small]
  have h4 := faddL h2 h3 (by simp; omega)
  have e : [[106, 111, 98, 32, 106] ++ fg k ++ [32, 111, 110, 32, 114, 114]] ++ lot.map carL ++ [[99, 117, 116, 115, 32, 48], [101, 110, 100]] = jobL (jN k) sRr lot none 0 := by
    simp [jobL, headL, sJ, wOn, sRr, jN, endL, wCuts, sEnd, fg]
  rw [e] at h4
  have hjl : (jobL (jN k) sRr lot none 0).length ≤ 1010 := by simp [jobL, endL]; omega
  have ck := chk_z m [.lst (rows.map PV.str), lo] (n := n) 0 hn (rows.map PV.str) rfl
  have ex := ext_z m [.lst (rows.map PV.str), lo] (n := n) 0 hn (rows.map PV.str) ((jobL (jN k) sRr lot none 0).map PV.str) rfl (by simp only [List.length_map]; exact szl (by omega))
  rw [List.set_cons_zero, ← List.map_append] at ex
  obtain ⟨q, hq⟩ : ∃ q, (jobL (jN k) sRr lot none 0).map PV.str = q := ⟨_, rfl⟩
  rw [hq] at h4 ex
  simp only [xB8, e_drop, e_bm, e_bind, e_var, List.getElem?_cons_succ, List.getElem?_cons_zero, ck, if_true, e_cons, e_nil, h4, ex, e_upS]
theorem xL8 (t nm x3 w p g l c : PV) (e5 : Option PV) (n : Nat) (m : Sto) (hn : n = m.length) (lots0 : List PV) (ys : List PV) : ∀ (lots : List (List (List Nat × List Nat))) (j : Nat) (rows : List (List Nat)) (x11 x12 x13 x14 : Option PV), (∀ lot ∈ lots, lot.length ≤ 1000) → j + lots.length < 60 → rows.length ≤ 1000 + 1010 * j →
    ∃ x11' x12', loopF ⟨ys, [(n + 1, lots0)]⟩ (.tp [(.nm 11), (.nm 12)]) xB8 ((lots.zipIdx j).map fun q => .tup [.int (q.2 : Nat), lotPV q.1]) [some t, some nm, some (.ref n), some x3, some (.ref (n + 1)), e5, some w, some p, some g, some l, some c, x11, x12, x13, x14] (m ++ [.lst (rows.map PV.str), .lst lots0]) =
      some (.ok (.next [some t, some nm, some (.ref n), some x3, some (.ref (n + 1)), e5, some w, some p, some g, some l, some c, x11', x12', x13, x14]), m ++ [.lst ((rows ++ ((lots.zipIdx j).map fun q => jobL (jN q.2) sRr q.1 none 0).flatten).map PV.str), .lst lots0])
  | [], j, rows, x11, x12, x13, x14, h1, h2, h3 => by
    have ok : Src.ok ⟨ys, [(n + 1, lots0)]⟩ (m ++ [.lst (rows.map PV.str), .lst lots0]) := ok_one (by subst hn; simp [app_get])
    exact ⟨x11, x12, by rw [List.zipIdx_nil, List.map_nil, loopF_0 ok]; simp⟩
  | lot :: lots, j, rows, x11, x12, x13, x14, h1, h2, h3 => by
    have ok : Src.ok ⟨ys, [(n + 1, lots0)]⟩ (m ++ [.lst (rows.map PV.str), .lst lots0]) := ok_one (by subst hn; simp [app_get])
    simp only [List.length_cons] at h2
    have hl := h1 lot (by simp)
    have hjl : (jobL (jN j) sRr lot none 0).length ≤ 1010 := by simp [jobL, endL]; omega
    have b := xB8_run t nm x3 w p g l c e5 n (n + 1) j (by omega) lot hl m hn rows (by omega) (.lst lots0) x13 x14
    obtain ⟨x11', x12', ih⟩ := xL8 t nm x3 w p g l c e5 n m hn lots0 ys lots (j + 1) (rows ++ jobL (jN j) sRr lot none 0) (some (.int (j : Nat))) (some (lotPV lot)) x13 x14 (fun q hq => h1 q (by simp [hq])) (by omega) (by simp only [List.length_append]; omega)
    refine ⟨x11', x12', ?_⟩
    rw [List.zipIdx_cons, List.map_cons, loopF_e ok]
    simp only [e_putT, e_puts, e_puts0, e_put, List.set_cons_succ, List.set_cons_zero, b, Res.bind]
    rw [ih]
    simp
end K29
namespace K29
open PySem L2 Mini
theorem rng1_run {fr : Fa} {r : Mini.Env} {m m1 : Sto} {N : Int} (h : fr r m = some (.ok [.int N], m1)) (hs : smallR N = true) : iRng1 fr r m = some (.ok ⟨rangeP 0 N, []⟩, m1) := by
  unfold Mini.iRng1
  rw [h]
  simp only [Res.bind]
  rw [if_pos hs]
theorem lcomp_run {fi : Fi} {tg : Tg} {ft : Ft} {fe : Fe} {vs : List Nat} {r : Mini.Env} {m m1 m2 : Sto} {src : Src} {xs : List PV} (h : fi r m = some (.ok src, m1)) (h2 : loopC src tg ft fe vs r src.items m1 [] = some (.ok xs, m2)) : fLst (lComp fi tg ft fe vs) r m = some (.ok (.lst xs), m2) := by
  unfold fLst lComp
  rw [h]
  simp only [Res.bind]
  rw [h2]
theorem xS8_run (t nm x2 x3 w p g l c : PV) (e5 : Option PV) (n : Nat) (lots : List (List (List Nat × List Nat))) (M : Sto) (hM : M[n]? = some (.lst (lots.map lotPV))) : xS8 [some t, some nm, some x2, some x3, some (.ref n), e5, some w, some p, some g, some l, some c, none, none, none, none] M =
    loopF ⟨(lots.zipIdx.map fun q => .tup [.int (q.2 : Nat), lotPV q.1]), [(n, lots.map lotPV)]⟩ (.tp [(.nm 11), (.nm 12)]) xB8 (lots.zipIdx.map fun q => .tup [.int (q.2 : Nat), lotPV q.1]) [some t, some nm, some x2, some x3, some (.ref n), e5, some w, some p, some g, some l, some c, none, none, none, none] M := by
  have hs : srcS (.ref n) M = some ⟨lots.map lotPV, [(n, lots.map lotPV)]⟩ := by
    simp [srcS, srcQ, hM]
  have e : ((lots.map lotPV).zipIdx.map fun q => PV.tup [.int q.2, q.1]) = lots.zipIdx.map fun q => .tup [.int (q.2 : Nat), lotPV q.1] := by
    rw [zipIdx_map', List.map_map]
    rfl
  simp only [xS8, e_for, e_enumA, e_cons, e_nil, e_var, e_bind, List.getElem?_cons_succ, List.getElem?_cons_zero, hs, e]
theorem xS9_run (t x5 w p g l c : PV) (e5 e11 e12 e13 e14 : Option PV) (nm : List Nat) (n n1 k : Nat) (rows : List (List Nat)) (lots : List PV) (last : Option Nat) (cuts : Nat) (M : Sto) (hM : M[n1]? = some (.lst lots)) (hk : lots.length = k) (hk6 : k < 60) (hR : M[n]? = some (.lst (rows.map PV.str))) (hn : nm.length ≤ 1000)
    (hr : rows.length ≤ 90000) : xS9 [some t, some (.str nm), some (.ref n), some (linesP (endL last cuts)), some (.ref n1), e5, some w, some p, some g, some l, some c, e11, e12, none, none] M =
    some (.ok (.ret (linesP (rows ++ dayL nm sRr ((List.range k).map jN) last cuts))), M) := by
  have el := end_len last cuts
  have j1 := fone (job_line [100, 97, 121, 32] nm [some t, some (.str nm), some (.ref n), some (linesP (endL last cuts)), some (.ref n1), e5, some w, some p, some g, some l, some c, e11, e12, none, none] M 1 rfl hn (by decide))
  have a1 := faddR (fa := fVar 2) rfl hR j1 (by simp; omega)
  have lp := loopC_map (src := ⟨rangeP 0 (k : Nat), []⟩) (tg := .nm 11) (fe := (f2 vAdd (fC (.str [100, 111, 32, 106])) (fBlt Mini.vStr (aCons (fVar 11) aNil)))) (vs := [11])
    (r := [some t, some (.str nm), some (.ref n), some (linesP (endL last cuts)), some (.ref n1), e5, some w, some p, some g, some l, some c, e11, e12, none, none]) (m := M) ok_nil (fun x => match x with | .int k => .str (wDo ++ jN k.toNat) | _ => .non) (rangeP 0 (k : Nat)) [] (by rw [rangeP_nat]; simp; exact szl (by omega)) fun x hx => by
      rw [rangeP_nat] at hx
      obtain ⟨j, hj, rfl⟩ := List.mem_map.mp hx
      have hj6 : j < 60 := by have := List.mem_range.mp hj; omega
      have lj := fg_len j
      refine ⟨[some t, some (.str nm), some (.ref n), some (linesP (endL last cuts)), some (.ref n1), e5, some w, some p, some g, some l, some c, some (.int (j : Nat)), e12, none, none], by simp [wipeE], ?_⟩
      have := fadd (fa := fC (.str [100, 111, 32, 106])) (a := [100, 111, 32, 106]) (r := [some t, some (.str nm), some (.ref n), some (linesP (endL last cuts)), some (.ref n1), e5, some w, some p, some g, some l, some c, some (.int (j : Nat)), e12, none, none]) (m := M) rfl (fstr (i := 11) rfl hj6) (by simp; omega)
      rw [this]
      simp [wDo, jN]
  have mm : (rangeP 0 (k : Nat)).map (fun x => match x with | .int k => PV.str (wDo ++ jN k.toNat) | _ => .non) = (((List.range k).map jN).map (wDo ++ ·)).map PV.str := by
    rw [rangeP_nat, List.map_map, List.map_map, List.map_map]
    rfl
  rw [mm, List.nil_append] at lp
  have hsm := small_nat (n := k) (by omega)
  have h4 : fLst (lComp (iRng1 (aCons (fBlt vLen (aCons (fVar 4) aNil)) aNil)) (.nm 11) fYes (f2 vAdd (fC (.str [100, 111, 32, 106])) (fBlt Mini.vStr (aCons (fVar 11) aNil))) [11]) [some t, some (.str nm), some (.ref n), some (linesP (endL last cuts)), some (.ref n1), e5, some w, some p, some g, some l, some c, e11, e12, none, none] M =
      some (.ok (.lst ((((List.range k).map jN).map (wDo ++ ·)).map PV.str)), M) := by
    refine lcomp_run (rng1_run (N := (k : Nat)) ?_ hsm) lp
    simp only [e_cons, e_nil, e_blt, e_var, e_bind, List.getElem?_cons_succ, List.getElem?_cons_zero, v_lenR, hM, hk, e_up]
  have a2 := faddL a1 h4 (by simp; omega)
  have a3 := faddL (fb := fVar 3) a2 (b := endL last cuts) rfl (by simp; omega)
  simp only [xS9, e_ret, e_bind, a3]
  have e : rows ++ [[100, 97, 121, 32] ++ nm ++ [32, 111, 110, 32, 114, 114]] ++ ((List.range k).map jN).map (wDo ++ ·) ++ endL last cuts = rows ++ dayL nm sRr ((List.range k).map jN) last cuts := by
    simp [dayL, headL, sD, wOn, sRr]
  rw [e]
  rfl
theorem sdd_len : ∀ xs : List Int, (sdd xs).length ≤ xs.length
  | [] => by simp [sdd]
  | x :: xs => by
    have h : ∀ ys : List Int, (insU x ys).length ≤ ys.length + 1 := fun ys => by
      induction ys with
      | nil => simp [insU]
      | cons y ys ih =>
        unfold insU
        split
        · simp
        · split
          · simp
          · simp; omega
    have := h (sdd xs)
    have := sdd_len xs
    show (insU x (sdd xs)).length ≤ _
    simp only [List.length_cons]
    omega
theorem lot_len (ps : List (Nat × Nat)) (gs : List Nat) (g : Int) : (lotN ps gs g).length ≤ ps.length := by
  unfold lotN
  rw [List.length_map]
  exact Nat.le_trans (List.length_filter_le _ _) (by simp)
theorem sim_law_texts : Sim 15 2 m_law_texts F_law_texts := fun xs m x m2 hl hF => by
  unfold F_law_texts at hF
  split at hF
  case h_2 => cases hF
  rename_i x0 nm
  split at hF
  case isFalse => cases hF
  rename_i hx
  obtain ⟨h1, ok, hnm⟩ := hx.choose_spec
  generalize hx.choose = T at *
  simp only [Option.some.injEq, Prod.mk.injEq] at hF
  obtain ⟨rfl, rfl⟩ := hF
  subst h1
  have hcap : cap = 600 := rfl
  have w1 := ok.w1
  have hfew := ok.few
  have r1 := xS1_run nm T.w (.tup (T.ps.map pairP)) (.tup (T.gs.map natP)) (optP T.last) (.int (T.cuts : Nat)) m
  have r2 := xS2_run (taskP T) (.str nm) (.tup (T.ps.map pairP)) (.tup (T.gs.map natP)) (optP T.last) (.int (T.cuts : Nat)) T.w (by omega) m
  have r3 := xS3_run (taskP T) (.str nm) (.tup (T.ps.map pairP)) (.tup (T.gs.map natP)) (optP T.last) (.int (T.cuts : Nat)) T.w w1 m [wRing ++ sRr, wCells ++ T.w] (by simp)
  have eR : [wRing ++ sRr, wCells ++ T.w] ++ ((binsN T.w.length).map binL ++ [sEnd]) = ringL sRr T.w (binsN T.w.length) := rfl
  rw [eR] at r3
  have hRl : (ringL sRr T.w (binsN T.w.length)).length ≤ 100 := by simp [ringL, binsN]; omega
  obtain ⟨R, hR⟩ : ∃ R, ringL sRr T.w (binsN T.w.length) = R := ⟨_, rfl⟩
  rw [hR] at r3 hRl
  have r4 := xS4_run (taskP T) (.str nm) (.ref m.length) (.tup (T.ps.map pairP)) (.tup (T.gs.map natP)) (.str T.w) T.last T.cuts ok.last ok.cuts (m ++ [.lst (R.map PV.str)])
  have r5 : xS5 [some (taskP T), some (.str nm), some (.ref m.length), some (linesP (endL T.last T.cuts)), none, none, some (.str T.w), some (.tup (T.ps.map pairP)), some (.tup (T.gs.map natP)), some (optP T.last), some (.int (T.cuts : Nat)), none, none, none, none] (m ++ [.lst (R.map PV.str)]) =
      some (.ok (.next [some (taskP T), some (.str nm), some (.ref m.length), some (linesP (endL T.last T.cuts)), some (.ref (m.length + 1)), none, some (.str T.w), some (.tup (T.ps.map pairP)), some (.tup (T.gs.map natP)), some (optP T.last), some (.int (T.cuts : Nat)), none, none, none, none]), m ++ [.lst (R.map PV.str), .lst []]) := by
    simp [xS5, tup_small]
  have r6 := xS6_run (taskP T) (.str nm) (.ref m.length) (linesP (endL T.last T.cuts)) (.ref (m.length + 1)) (.str T.w) (.tup (T.ps.map pairP)) (optP T.last) (.int (T.cuts : Nat)) T.gs hfew (m ++ [.lst (R.map PV.str), .lst []])
  have hgl := sdd_len (T.gs.map fun (k : Nat) => (k : Int))
  rw [List.length_map] at hgl
  obtain ⟨x5', l6⟩ := xL6 (taskP T) (.str nm) (linesP (endL T.last T.cuts)) (.str T.w) (optP T.last) (.int (T.cuts : Nat)) none T.ps T.gs ok.len hfew ok.ps m (.ref m.length) (.lst (R.map PV.str)) ⟨(sdd (T.gs.map fun (k : Nat) => (k : Int))).map PV.int, []⟩ (fun m => ok_nil) (sdd (T.gs.map fun (k : Nat) => (k : Int))) [] none (by simp; omega)
  have eL : ([] ++ (sdd (T.gs.map fun (k : Nat) => (k : Int))).map fun g => lotPV (lotN T.ps T.gs g)) = (lotsN T).map lotPV := by
    unfold lotsN
    rw [List.map_map]
    rfl
  rw [eL] at l6
  have hLl : (lotsN T).length < 50 := by unfold lotsN; rw [List.length_map]; omega
  have hlot : ∀ lot ∈ lotsN T, lot.length ≤ 1000 := fun lot h => by
    unfold lotsN at h
    obtain ⟨g, _, rfl⟩ := List.mem_map.mp h
    have := lot_len T.ps T.gs g
    have := ok.len
    omega
  have hM : (m ++ [Ob.lst (R.map PV.str), .lst ((lotsN T).map lotPV)])[m.length + 1]? = some (.lst ((lotsN T).map lotPV)) := by rw [app_get]; rfl
  have hM0 : (m ++ [Ob.lst (R.map PV.str), .lst ((lotsN T).map lotPV)])[m.length]? = some (.lst (R.map PV.str)) := by rw [app_get0]; rfl
  obtain ⟨L, hL⟩ : ∃ L, lotsN T = L := ⟨_, rfl⟩
  have et : textsN T nm = R ++ (if L.length = 1 then jobL nm sRr (L.headD []) T.last T.cuts else jobsN L ++ dayL nm sRr ((List.range L.length).map jN) T.last T.cuts) := by
    unfold textsN
    rw [hL, hR]
  rw [hL] at l6 hLl hlot hM hM0
  by_cases h1 : L.length = 1
  · obtain ⟨lot, rfl⟩ : ∃ lot, L = [lot] := by
      match L, h1 with
      | [lot], _ => exact ⟨lot, rfl⟩
    have r7 := xS7_yes (taskP T) .non (.str T.w) (.tup (T.ps.map pairP)) (.tup (T.gs.map natP)) (optP T.last) (.int (T.cuts : Nat)) x5' nm m.length (m.length + 1) R lot T.last T.cuts _ hM hM0 (by omega) (by omega) (hlot lot (by simp))
    refine ⟨.ret (linesP (textsN T nm)), m ++ [.lst (R.map PV.str), .lst ([lot].map lotPV)], _, m.length, ?_, .inl rfl, by simp, app_cmp _ _, frz_pure _ _ _ _ (lines_pure _)⟩
    rw [texts_is, et, if_pos h1]
    exact seq_next r1 (seq_next r2 (seq_next r3 (seq_next r4 (seq_next r5 (seq_next (r6.trans l6) (seq_ret r7))))))
  · have r7 := xS7_no (taskP T) (.str nm) (.ref m.length) (linesP (endL T.last T.cuts)) .non (.str T.w) (.tup (T.ps.map pairP)) (.tup (T.gs.map natP)) (optP T.last) (.int (T.cuts : Nat)) x5' (m.length + 1) _ _ hM (by rw [List.length_map]; exact h1)
    have r8 := xS8_run (taskP T) (.str nm) (.ref m.length) (linesP (endL T.last T.cuts)) (.str T.w) (.tup (T.ps.map pairP)) (.tup (T.gs.map natP)) (optP T.last) (.int (T.cuts : Nat)) x5' (m.length + 1) L _ hM
    obtain ⟨x11, x12, l8⟩ := xL8 (taskP T) (.str nm) (linesP (endL T.last T.cuts)) (.str T.w) (.tup (T.ps.map pairP)) (.tup (T.gs.map natP)) (optP T.last) (.int (T.cuts : Nat)) x5' m.length m rfl (L.map lotPV) (L.zipIdx.map fun q => .tup [.int (q.2 : Nat), lotPV q.1]) L 0 R none none none none hlot (by omega) (by omega)
    have hjn : (R ++ (L.zipIdx.map fun q => jobL (jN q.2) sRr q.1 none 0).flatten).length ≤ 90000 := by
      have : ∀ (L : List (List (List Nat × List Nat))) (j : Nat), (∀ lot ∈ L, lot.length ≤ 1000) → ((L.zipIdx j).map fun q => jobL (jN q.2) sRr q.1 none 0).flatten.length ≤ 1010 * L.length := fun L => by
        induction L with
        | nil => intro j _; simp
        | cons lot L ih =>
          intro j h
          have h0 := h lot (by simp)
          have h2 := ih (j + 1) fun q hq => h q (by simp [hq])
          have hjl : (jobL (jN j) sRr lot none 0).length ≤ 1010 := by simp [jobL, endL]; omega
          rw [List.zipIdx_cons, List.map_cons, List.flatten_cons, List.length_append, List.length_cons]
          simp only []
          omega
      have := this L 0 hlot
      rw [List.length_append]
      omega
    have hM2 : (m ++ [Ob.lst ((R ++ (L.zipIdx.map fun q => jobL (jN q.2) sRr q.1 none 0).flatten).map PV.str), .lst (L.map lotPV)])[m.length + 1]? = some (.lst (L.map lotPV)) := by rw [app_get]; rfl
    have hM3 : (m ++ [Ob.lst ((R ++ (L.zipIdx.map fun q => jobL (jN q.2) sRr q.1 none 0).flatten).map PV.str), .lst (L.map lotPV)])[m.length]? = some (.lst ((R ++ (L.zipIdx.map fun q => jobL (jN q.2) sRr q.1 none 0).flatten).map PV.str)) := by rw [app_get0]; rfl
    have r9 := xS9_run (taskP T) .non (.str T.w) (.tup (T.ps.map pairP)) (.tup (T.gs.map natP)) (optP T.last) (.int (T.cuts : Nat)) x5' x11 x12 none none nm m.length (m.length + 1) L.length _ _ T.last T.cuts _ hM2 (by rw [List.length_map]) (by omega) hM3 (by omega) hjn
    refine ⟨.ret (linesP (textsN T nm)), m ++ [.lst ((R ++ (L.zipIdx.map fun q => jobL (jN q.2) sRr q.1 none 0).flatten).map PV.str), .lst (L.map lotPV)], _, m.length, ?_, .inl rfl, by simp, app_cmp _ _, frz_pure _ _ _ _ (lines_pure _)⟩
    rw [texts_is, et, if_neg h1]
    have fin : R ++ (jobsN L ++ dayL nm sRr ((List.range L.length).map jN) T.last T.cuts) = R ++ (L.zipIdx.map fun q => jobL (jN q.2) sRr q.1 none 0).flatten ++ dayL nm sRr ((List.range L.length).map jN) T.last T.cuts := by
      unfold jobsN
      rw [List.append_assoc]
    rw [fin]
    exact seq_next r1 (seq_next r2 (seq_next r3 (seq_next r4 (seq_next r5 (seq_next (r6.trans l6) (seq_next r7 (seq_next (r8.trans l8) r9)))))))
end K29
namespace K29
open PySem L2 Mini
def sWord : List Nat := [119, 111, 114, 100]
def sName : List Nat := [110, 97, 109, 101]
def sSigns : List Nat := [115, 105, 103, 110, 115]
def sCount : List Nat := [99, 111, 117, 110, 116]
/-- one part of a line -/
def stepS (t : List Nat) (x : PV) (a : Nat) (g : Bool) (found : List PV) : Option (Nat × Bool × List PV) := match x with
  | .tup [.str k, told] =>
    if k = sWord then match told with
      | .str w => some ((wordS t w a g).1, (wordS t w a g).2, found)
      | _ => none
    else if k = sName then some ((nameS t a g).2.1, (nameS t a g).2.2, found ++ [.str (nameS t a g).1])
    else if k = sSigns then match told with
      | .tup [.str z, .int least, .int most] => if 0 ≤ most then some (a + signsN t z most.toNat a g, g && decide (least ≤ signsN t z most.toNat a g), found ++ [.str ((t.drop a).take (signsN t z most.toNat a g))]) else none
      | _ => none
    else if k = sCount then match told with
      | .int most => some ((countS t a g most).2.1, (countS t a g most).2.2, found ++ [(countS t a g most).1])
      | _ => none
    else some (a, g && decide (a = t.length), found)
  | _ => none
def scanS (t : List Nat) : List PV → Nat → Bool → List PV → Option (Nat × Bool × List PV)
  | [], a, g, found => some (a, g, found)
  | x :: xs, a, g, found => match stepS t x a g found with
    | some (a', g', found') => scanS t xs a' g' found'
    | none => none
def isLs : PV → Bool
  | .lst _ => true
  | .ref _ => true
  | _ => false
def F_law_scan : Fn := fun xs m => match xs with
  | [.str t, x] => match rdQ x m with
    | some ps => if isLs x = true ∧ t.length ≤ cap ∧ ps.length ≤ 10000 then match scanS t ps 0 true [] with
        | some (a, g, found) => some (.tup [.ref m.length, .ref (m.length + 1)], m ++ [scO t a g, .lst found])
        | none => none else none
    | none => none
  | _ => none
end K29
namespace K29
open PySem L2 Mini
/-- law_scan: slots line 0 parts 1 scan 2 found 3 kind 4 told 5 -/
noncomputable def m_law_scan : Fs :=
    (sSeq (sPar [2, 3] (aCons (fMk 1 2 F_Scan_init (aCons (fVar 0) aNil)) (aCons (fAlloc (lDisp aNil)) aNil)))
    (sSeq (sFor (iAny (fVar 1)) (.tp [(.nm 4), (.nm 5)]) (sIf (fTst (f2 vEq (fVar 4) (fC (.str [119, 111, 114, 100])))) (sDrop (fMt 1 "take_word" 2 F_Scan_take_word (fVar 2) (aCons (fVar 5) aNil))) (sIf (fTst (f2 vEq (fVar 4) (fC (.str [110, 97, 109, 101])))) (sDrop (fBm "list" vAppend (fVar 3) (aCons (fMt 1 "take_name" 1 F_Scan_take_name (fVar 2) aNil) aNil))) (sIf (fTst (f2 vEq (fVar 4) (fC (.str [115, 105, 103, 110, 115])))) (sDrop (fBm "list" vAppend (fVar 3) (aCons (fMt 1 "take_signs" 4 F_Scan_take_signs (fVar 2) (aCons (f2 vIx (fVar 5) (fC (.int 0))) (aCons (f2 vIx (fVar 5) (fC (.int 1))) (aCons (f2 vIx (fVar 5) (fC (.int 2))) aNil)))) aNil))) (sIf (fTst (f2 vEq (fVar 4) (fC (.str [99, 111, 117, 110, 116])))) (sDrop (fBm "list" vAppend (fVar 3) (aCons (fMt 1 "take_count" 2 F_Scan_take_count (fVar 2) (aCons (fVar 5) aNil)) aNil))) (sDrop (fMt 1 "take_end" 1 F_Scan_take_end (fVar 2) aNil)))))))
    (sRet (fTup (aCons (fVar 2) (aCons (fVar 3) aNil))))))
end K29
namespace K29
open PySem L2 Mini
mutual
theorem pure_below : ∀ (n k : Nat) (x : PV), pure? k x = true → below n x = true
  | n, k, .non, _ => by simp [below]
  | n, k, .bl b, _ => by simp [below]
  | n, k, .int b, _ => by simp [below]
  | n, k, .str b, _ => by simp [below]
  | n, k, .glo b, _ => by simp [below]
  | n, k, .ty b, _ => by simp [below]
  | n, 0, .tup xs, h => by simp [pure?] at h
  | n, 0, .lst xs, h => by simp [pure?] at h
  | n, 0, .dct ks xs, h => by simp [pure?] at h
  | n, 0, .ref xs, h => by simp [pure?] at h
  | n, k + 1, .tup xs, h => by simp only [pure?] at h; simp only [below]; exact pures_below n k xs h
  | n, k + 1, .lst xs, h => by simp only [pure?] at h; simp only [below]; exact pures_below n k xs h
  | n, k + 1, .dct ks xs, h => by simp only [pure?] at h; simp only [below]; exact pures_below n k xs h
  | n, k + 1, .ref xs, h => by simp [pure?] at h
theorem pures_below : ∀ (n k : Nat) (xs : List PV), pures? k xs = true → belows n xs = true
  | n, k, [], _ => by simp [belows]
  | n, k, x :: xs, h => by
    simp only [pures?, Bool.and_eq_true] at h
    simp [belows, pure_below n k x h.1, pures_below n k xs h.2]
end
def yB : Fs := (sIf (fTst (f2 vEq (fVar 4) (fC (.str [119, 111, 114, 100])))) (sDrop (fMt 1 "take_word" 2 F_Scan_take_word (fVar 2) (aCons (fVar 5) aNil))) (sIf (fTst (f2 vEq (fVar 4) (fC (.str [110, 97, 109, 101])))) (sDrop (fBm "list" vAppend (fVar 3) (aCons (fMt 1 "take_name" 1 F_Scan_take_name (fVar 2) aNil) aNil))) (sIf (fTst (f2 vEq (fVar 4) (fC (.str [115, 105, 103, 110, 115])))) (sDrop (fBm "list" vAppend (fVar 3) (aCons (fMt 1 "take_signs" 4 F_Scan_take_signs (fVar 2) (aCons (f2 vIx (fVar 5) (fC (.int 0))) (aCons (f2 vIx (fVar 5) (fC (.int 1))) (aCons (f2 vIx (fVar 5) (fC (.int 2))) aNil)))) aNil))) (sIf (fTst (f2 vEq (fVar 4) (fC (.str [99, 111, 117, 110, 116])))) (sDrop (fBm "list" vAppend (fVar 3) (aCons (fMt 1 "take_count" 2 F_Scan_take_count (fVar 2) (aCons (fVar 5) aNil)) aNil))) (sDrop (fMt 1 "take_end" 1 F_Scan_take_end (fVar 2) aNil))))))
theorem sc_at {f : SF} (m z : Sto) {t : List Nat} (ht : t.length ≤ cap) {a a' : Nat} {g g' : Bool} {ys : List PV} {v : PV} (hf : f t a g ys = some (v, a', g')) : scanF f (.ref m.length :: ys) (m ++ scO t a g :: z) = some (v, m ++ scO t a' g' :: z) := by
  have hg : (m ++ scO t a g :: z)[m.length]? = some (scO t a g) := by rw [app_get0]; rfl
  rw [scanF_run hg ht hf, app_set0, List.set_cons_zero]
theorem scins_at (m z : Sto) (t : List Nat) (a : Nat) (g : Bool) : insOf (.ref m.length) (m ++ scO t a g :: z) = some (m.length, 1, [("text", .str t), ("at", .int (a : Nat)), ("good", .bl g)]) := by
  rw [e_insOf, app_get0]
  rfl
theorem yB_run (m : Sto) (t : List Nat) (ht : t.length ≤ cap) (parts k told : PV) (a a' : Nat) (g g' : Bool) (found found' : List PV) (hfl : found.length ≤ 100000) (h : stepS t (.tup [k, told]) a g found = some (a', g', found')) :
    yB [some (.str t), some parts, some (.ref m.length), some (.ref (m.length + 1)), some k, some told] (m ++ [scO t a g, .lst found]) = some (.ok (.next [some (.str t), some parts, some (.ref m.length), some (.ref (m.length + 1)), some k, some told]), m ++ [scO t a' g', .lst found']) := by
  have hz : found.length < sizeLine := by have : sizeLine = 16777216 := rfl; omega
  have i0 := scins_at m [.lst found] t a g
  have ck := chk_z m [scO t a g, .lst found] (n := m.length + 1) 1 rfl found rfl
  have ap : ∀ a g v, vAppend (.ref (m.length + 1)) [v] (m ++ [scO t a g, .lst found]) = some (.non, m ++ [scO t a g, .lst (found ++ [v])]) := fun a g v => app_z m [scO t a g, .lst found] (n := m.length + 1) 1 rfl found v rfl hz
  cases k with
  | str k =>
    unfold stepS at h
    simp only [] at h
    by_cases h1 : k = sWord
    · rw [if_pos h1] at h
      subst h1
      cases told with
      | str w =>
        simp only [Option.some.injEq, Prod.mk.injEq] at h
        obtain ⟨rfl, rfl, rfl⟩ := h
        have r : F_Scan_take_word [.ref m.length, .str w] (m ++ [scO t a g, .lst found]) = some (.non, m ++ [scO t (wordS t w a g).1 (wordS t w a g).2, .lst found]) := sc_at m [.lst found] ht rfl
        simp [yB, sWord, ↓i0, List.lookup, r]
      | _ => simp at h
    · rw [if_neg h1] at h
      have h1' : ¬ k = [119, 111, 114, 100] := h1
      by_cases h2 : k = sName
      · rw [if_pos h2] at h
        subst h2
        simp only [Option.some.injEq, Prod.mk.injEq] at h
        obtain ⟨rfl, rfl, rfl⟩ := h
        have r : F_Scan_take_name [.ref m.length] (m ++ [scO t a g, .lst found]) = some (.str (nameS t a g).1, m ++ [scO t (nameS t a g).2.1 (nameS t a g).2.2, .lst found]) := sc_at m [.lst found] ht rfl
        simp [yB, sName, ↓i0, List.lookup, r, ck, ap]
      · rw [if_neg h2] at h
        have h2' : ¬ k = [110, 97, 109, 101] := h2
        by_cases h3 : k = sSigns
        · rw [if_pos h3] at h
          subst h3
          split at h
          · rename_i z least most
            split at h
            · rename_i h0
              simp only [Option.some.injEq, Prod.mk.injEq] at h
              obtain ⟨rfl, rfl, rfl⟩ := h
              obtain ⟨most, rfl⟩ := Int.eq_ofNat_of_zero_le h0
              simp only [Int.toNat_natCast]
              have r : F_Scan_take_signs [.ref m.length, .str z, .int least, .int (most : Nat)] (m ++ [scO t a g, .lst found]) = some (.str ((t.drop a).take (signsN t z most a g)), m ++ [scO t (a + signsN t z most a g) (g && decide (least ≤ signsN t z most a g)), .lst found]) := sc_at m [.lst found] ht (by simp)
              simp [yB, sSigns, ↓i0, List.lookup, r, ck, ap, at_0, at_1, at_2]
            · cases h
          · cases h
        · rw [if_neg h3] at h
          have h3' : ¬ k = [115, 105, 103, 110, 115] := h3
          by_cases h4 : k = sCount
          · rw [if_pos h4] at h
            subst h4
            cases told with
            | int most =>
              simp only [Option.some.injEq, Prod.mk.injEq] at h
              obtain ⟨rfl, rfl, rfl⟩ := h
              have r : F_Scan_take_count [.ref m.length, .int most] (m ++ [scO t a g, .lst found]) = some ((countS t a g most).1, m ++ [scO t (countS t a g most).2.1 (countS t a g most).2.2, .lst found]) := sc_at m [.lst found] ht rfl
              simp [yB, sCount, ↓i0, List.lookup, r, ck, ap]
            | _ => simp at h
          · rw [if_neg h4] at h
            have h4' : ¬ k = [99, 111, 117, 110, 116] := h4
            simp only [Option.some.injEq, Prod.mk.injEq] at h
            obtain ⟨rfl, rfl, rfl⟩ := h
            have r : F_Scan_take_end [.ref m.length] (m ++ [scO t a g, .lst found]) = some (.non, m ++ [scO t a (g && decide (a = t.length)), .lst found]) := sc_at m [.lst found] ht rfl
            simp [yB, h1', h2', h3', h4', ↓i0, List.lookup, r]
  | _ => simp [stepS] at h
theorem step_tup {t : List Nat} {x : PV} {a : Nat} {g : Bool} {found : List PV} {r : Nat × Bool × List PV} (h : stepS t x a g found = some r) : ∃ k told, x = .tup [k, told] ∧ (pures? 40 found = true → pures? 40 r.2.2 = true) ∧ r.2.2.length ≤ found.length + 1 := by
  unfold stepS at h
  split at h
  · refine ⟨_, _, rfl, ?_⟩
    split at h
    · split at h
      · simp only [Option.some.injEq] at h
        subst h
        exact ⟨fun p => p, by simp⟩
      · cases h
    · split at h
      · simp only [Option.some.injEq] at h
        subst h
        exact ⟨fun p => pures_app p rfl, by simp⟩
      · split at h
        · split at h
          · split at h
            · simp only [Option.some.injEq] at h
              subst h
              exact ⟨fun p => pures_app p rfl, by simp⟩
            · cases h
          · cases h
        · split at h
          · split at h
            · simp only [Option.some.injEq] at h
              subst h
              exact ⟨fun p => pures_app p rfl, by simp⟩
            · cases h
          · simp only [Option.some.injEq] at h
            subst h
            exact ⟨fun p => p, by simp⟩
  · cases h
theorem scan_loop (m : Sto) (t : List Nat) (ht : t.length ≤ cap) (parts : PV) (src : Src) (hsrc : ∀ z, src.ok (m ++ z)) : ∀ (xs : List PV) (a a' : Nat) (g g' : Bool) (found found' : List PV) (x4 x5 : Option PV), found.length + xs.length ≤ 100000 → scanS t xs a g found = some (a', g', found') →
    ∃ x4' x5', loopF src (.tp [(.nm 4), (.nm 5)]) yB xs [some (.str t), some parts, some (.ref m.length), some (.ref (m.length + 1)), x4, x5] (m ++ [scO t a g, .lst found]) = some (.ok (.next [some (.str t), some parts, some (.ref m.length), some (.ref (m.length + 1)), x4', x5']), m ++ [scO t a' g', .lst found'])
  | [], a, a', g, g', found, found', x4, x5, hl, h => by
    simp only [scanS, Option.some.injEq, Prod.mk.injEq] at h
    obtain ⟨rfl, rfl, rfl⟩ := h
    exact ⟨x4, x5, by rw [loopF_0 (hsrc _)]⟩
  | x :: xs, a, a', g, g', found, found', x4, x5, hl, h => by
    unfold scanS at h
    split at h
    · rename_i a1 g1 found1 hst
      obtain ⟨k, told, rfl, _, hfl⟩ := step_tup hst
      simp only [List.length_cons] at hl hfl
      have b := yB_run m t ht parts k told a a1 g g1 found found1 (by omega) hst
      obtain ⟨x4', x5', ih⟩ := scan_loop m t ht parts src hsrc xs a1 a' g1 g' found1 found' (some k) (some told) (by omega) h
      refine ⟨x4', x5', ?_⟩
      rw [loopF_e (hsrc _)]
      simp only [e_putT, e_puts, e_puts0, e_put, List.set_cons_succ, List.set_cons_zero, b, Res.bind]
      exact ih
    · cases h
theorem scan_pure {t : List Nat} : ∀ {xs : List PV} {a a' : Nat} {g g' : Bool} {found found' : List PV}, pures? 40 found = true → scanS t xs a g found = some (a', g', found') → pures? 40 found' = true
  | [], a, a', g, g', found, found', hp, h => by
    simp only [scanS, Option.some.injEq, Prod.mk.injEq] at h
    obtain ⟨rfl, rfl, rfl⟩ := h
    exact hp
  | x :: xs, a, a', g, g', found, found', hp, h => by
    unfold scanS at h
    split at h
    · rename_i hst
      obtain ⟨k, told, rfl, h2, _⟩ := step_tup hst
      exact scan_pure (h2 hp) h
    · cases h
theorem sim_law_scan : Sim 6 2 m_law_scan F_law_scan := fun xs m x m2 hl hF => by
  unfold F_law_scan at hF
  split at hF
  case h_2 => cases hF
  rename_i t px
  split at hF
  case h_2 => cases hF
  rename_i ps hps
  split at hF
  case isFalse => cases hF
  rename_i hc
  split at hF
  case h_2 => cases hF
  rename_i a g found hsc
  simp only [Option.some.injEq, Prod.mk.injEq] at hF
  obtain ⟨rfl, rfl⟩ := hF
  obtain ⟨h1, h2, h3⟩ := hc
  have hsrc : ∃ src, (∀ z, srcA px (m ++ z) = some src) ∧ src.items = ps ∧ ∀ z, src.ok (m ++ z) := by
    cases px with
    | lst xs =>
      simp only [e_rdQ1, Option.some.injEq] at hps
      subst hps
      exact ⟨⟨xs, []⟩, fun z => rfl, rfl, fun z => ok_nil⟩
    | ref n =>
      have hn : n < m.length := by
        apply Classical.byContradiction
        intro hn
        simp [List.getElem?_eq_none (Nat.le_of_not_lt hn)] at hps
      have hz : ∀ z, rdQ (.ref n) (m ++ z) = some ps := fun z => by
        rw [← hps]
        simp only [rdQ]
        rw [List.getElem?_append_left hn]
      refine ⟨⟨ps, [(n, ps)]⟩, fun z => ?_, rfl, fun z => ok_one (hz z)⟩
      rw [srcA_R, hz]
    | _ => simp [isLs] at h1
  obtain ⟨src, e1, e2, e3⟩ := hsrc
  obtain ⟨x4, x5, lp⟩ := scan_loop m t h2 px src e3 ps 0 a true g [] found none none (by simp; omega) hsc
  have hp := scan_pure (by rfl) hsc
  refine ⟨.ret (.tup [.ref m.length, .ref (m.length + 1)]), m ++ [scO t a g, .lst found], .tup [.ref m.length, .ref (m.length + 1)], m.length + 2, ?_, .inl rfl, (List.take_of_length_le (by simp)).symm, ⟨by omega, fun i o hi ho => ?_⟩, ?_⟩
  · have hi := init_run m t
    have e4 : (m ++ [Ob.ins 1 []]).set m.length (scO t 0 true) = m ++ [scO t 0 true] := set_last m _ _
    rw [e4] at hi
    simp only [yB] at lp
    simp [m_law_scan, startE, hi, tup_small, e1, e2, lp]
  · by_cases h : i < m.length
    · rw [List.getElem?_append_left h] at ho
      exact .inl ho
    · rw [List.getElem?_append_right (by omega)] at ho
      have : i - m.length = 0 ∨ i - m.length = 1 := by omega
      rcases this with e | e <;> rw [e] at ho <;> simp only [List.getElem?_cons_zero, List.getElem?_cons_succ, Option.some.injEq] at ho <;> subst ho
      · exact .inr (scO_below _ _ _ _)
      · exact .inr (pures_below _ 40 _ hp)
  · rw [frz_d]
    simp [frz, frzs]
end K29
namespace K29
open PySem L2 Mini
/-! ### scans of what fits -/
theorem wordS_at : ∀ (w p r : List Nat), wordS (p ++ (w ++ r)) w p.length true = (p.length + w.length, true)
  | [], p, r => by simp [wordS]
  | c :: w, p, r => by
    have h : (p ++ (c :: w ++ r))[p.length]? = some c := by
      rw [List.getElem?_append_right (Nat.le_refl _)]; simp
    unfold wordS
    rw [if_pos ⟨rfl, h⟩]
    have := wordS_at w (p ++ [c]) r
    rw [List.length_append, List.append_assoc] at this
    simp only [List.length_cons, List.length_nil, List.cons_append, List.nil_append] at this ⊢
    rw [this]
    simp only [Prod.mk.injEq, and_true]
    omega
theorem wordS_no (t : List Nat) : ∀ (w : List Nat) (a : Nat), wordS t w a false = (a, false)
  | [], a => by simp [wordS]
  | c :: w, a => by simp [wordS]
theorem wordS_miss (t w : List Nat) (c a : Nat) (g : Bool) (h : t[a]? ≠ some c) : wordS t (c :: w) a g = (a, false) := by
  unfold wordS
  rw [if_neg fun z => h z.2]
/-- what stands behind is no letter, no figure -/
def Ends (r : List Nat) : Prop := ∀ c, r.head? = some c → isAN c = false
theorem runOf_at (p z r : List Nat) (hz : z.all isAN = true) (hr : Ends r) : runOf (p ++ (z ++ r)) p.length = z := by
  unfold runOf
  rw [List.drop_left']
  · rw [List.takeWhile_append_of_pos (by simpa [List.all_eq_true] using hz)]
    cases r with
    | nil => simp
    | cons c r =>
      rw [List.takeWhile_cons, if_neg (by rw [hr c rfl]; simp)]
      simp
  · rfl
theorem isL_AN {c : Nat} (h : isL c = true) : isAN c = true := by simp [isAN, h]
theorem isL_D {c : Nat} (h : isL c = true) : isD c = false := by
  unfold isL LET at h
  unfold isD DIG
  simp only [decide_eq_true_eq, List.mem_range'_1, decide_eq_false_iff_not] at h ⊢
  omega
theorem nameB_is {nm : List Nat} (h : nameB nm = true) : nm ≠ [] ∧ nm.length ≤ 8 ∧ nm.all isAN = true ∧ nm ∉ RES ∧ ∃ c, nm.head? = some c ∧ isD c = false := by
  unfold nameB at h
  simp only [Bool.and_eq_true, decide_eq_true_eq, Bool.not_eq_true', decide_eq_false_iff_not] at h
  obtain ⟨⟨⟨⟨h1, h2⟩, h3⟩, h4⟩, h5⟩ := h
  cases nm with
  | nil => simp at h1
  | cons c nm => exact ⟨by simp, h2, h4, h5, c, rfl, isL_D h3⟩
theorem nameS_at (p nm r : List Nat) (hn : nameB nm = true) (hr : Ends r) : nameS (p ++ (nm ++ r)) p.length true = (nm, p.length + nm.length, true) := by
  obtain ⟨h1, h2, h3, h4, c, h5, h6⟩ := nameB_is hn
  unfold nameS
  simp only [runOf_at p nm r h3 hr]
  have : ¬ (true = false ∨ nm = [] ∨ ∃ c, nm.head? = some c ∧ isD c = true) := by
    rintro (h | h | ⟨d, h, h'⟩)
    · cases h
    · exact h1 h
    · rw [h5] at h
      cases h
      rw [h6] at h'
      cases h'
  rw [if_neg this, Nat.min_eq_left h2]
  simp [h2, h4]
theorem nameS_no (t : List Nat) (a : Nat) : nameS t a false = ([], a, false) := by simp [nameS]
theorem fg_AN (k : Nat) (h : k < 60) : (fg k).all isAN = true := by
  have : ∀ k < 60, (fg k).all isAN = true := by decide +kernel
  exact this k h
theorem fg_beg : ∀ k : Nat, k < 60 → ∀ j : Nat, j < (fg k).length → begB ((fg k).take (j + 1)) k = true := by decide +kernel
theorem fg_num : ∀ k : Nat, k < 60 → numOf (fg k) = k := by decide +kernel
theorem begB_up {r : List Nat} {a b : Int} (h : begB r a = true) (hab : a ≤ b) : begB r b = true := by
  unfold begB at *
  simp only [Bool.and_eq_true, decide_eq_true_eq] at *
  exact ⟨h.1, by omega⟩
theorem cntS_all (r : List Nat) (most : Int) (h : ∀ j, j < r.length → begB (r.take (j + 1)) most = true) : ∀ (n k : Nat), n + k = r.length → cntS r most n k = r.length
  | 0, k, e => by simp only [cntS]; omega
  | n + 1, k, e => by
    unfold cntS
    rw [if_pos (h k (by omega))]
    exact cntS_all r most h n (k + 1) (by omega)
theorem fg_pos (k : Nat) : 0 < (fg k).length := by unfold fg; split <;> simp
theorem countS_at (p r : List Nat) (k : Nat) (most : Int) (hk : k < 60) (hm : (k : Int) ≤ most) (hr : Ends r) : countS (p ++ (fg k ++ r)) p.length true most = (.int (k : Nat), p.length + (fg k).length, true) := by
  unfold countS
  simp only [runOf_at p (fg k) r (fg_AN k hk) hr]
  have hc := cntS_all (fg k) most (fun j hj => begB_up (fg_beg k hk j hj) hm) (fg k).length 0 (by omega)
  simp [hc, fg_pos k, fg_num k hk]
theorem countS_no (t : List Nat) (a : Nat) (most : Int) : (countS t a false most).2 = (a, false) := by simp [countS]
theorem signsN_at (p s r z : List Nat) (most : Nat) (hs : ∀ c ∈ s, c ∈ z) (hl : s.length ≤ most) (hr : ∀ c, r.head? = some c → c ∉ z) : signsN (p ++ (s ++ r)) z most p.length true = s.length := by
  unfold signsN
  rw [if_pos rfl, List.drop_left' rfl, List.takeWhile_append_of_pos (by simpa using hs)]
  have : r.takeWhile (fun c => decide (c ∈ z)) = [] := by
    cases r with
    | nil => rfl
    | cons c r => rw [List.takeWhile_cons, if_neg (by simpa using hr c rfl)]
  rw [this, List.append_nil]
  omega
theorem signsN_no (t z : List Nat) (most a : Nat) : signsN t z most a false = 0 := by simp [signsN]
/-- once it does not fit -/
theorem step_no {t : List Nat} {x : PV} {a : Nat} {found : List PV} {r : Nat × Bool × List PV} (h : stepS t x a false found = some r) : r.1 = a ∧ r.2.1 = false := by
  unfold stepS at h
  split at h
  · split at h
    · split at h
      · cases h
        simp [wordS_no]
      · cases h
    · split at h
      · cases h
        simp [nameS_no]
      · split at h
        · split at h
          · split at h
            · cases h
              simp [signsN_no]
            · cases h
          · cases h
        · split at h
          · split at h
            · cases h
              simp [countS_no]
            · cases h
          · cases h
            simp
  · cases h
theorem scan_no {t : List Nat} : ∀ {xs : List PV} {a : Nat} {found : List PV} {r : Nat × Bool × List PV}, scanS t xs a false found = some r → r.1 = a ∧ r.2.1 = false
  | [], a, found, r, h => by
    simp only [scanS, Option.some.injEq] at h
    subst h
    exact ⟨rfl, rfl⟩
  | x :: xs, a, found, r, h => by
    unfold scanS at h
    split at h
    · rename_i a1 g1 f1 hs
      obtain ⟨h1, h2⟩ := step_no hs
      simp only [] at h1 h2
      subst h1 h2
      exact scan_no h
    · cases h
end K29
namespace K29
open PySem L2 Mini
theorem ends_nil : Ends [] := fun c h => by cases h
theorem ends_sp (r : List Nat) : Ends (32 :: r) := fun c h => by cases h; decide
theorem fit_hit {t : List Nat} {j : Nat} {f : Sh} {js : List PV} {r : Nat} {v : PV} (hj : shOf j = some f) (h : f t 0 true = (v, t.length, true)) : fitL t (.glo j :: js) r = some (v, 0) := by
  unfold fitL
  simp [hj, h]
theorem fit_skip {t : List Nat} {j : Nat} {f : Sh} {js : List PV} {r : Nat} (hj : shOf j = some f) (h : (f t 0 true).2.2 = false) : fitL t (.glo j :: js) r = fitL t js (max r (f t 0 true).2.1) := by
  conv => lhs; unfold fitL
  simp [hj, h]
theorem w0 (w r : List Nat) : wordS (w ++ r) w 0 true = (w.length, true) := by
  have := wordS_at w [] r
  simpa using this
theorem n0 (p nm : List Nat) (hn : nameB nm = true) : nameS (p ++ nm) p.length true = (nm, p.length + nm.length, true) := by
  have := nameS_at p nm [] hn ends_nil
  simpa using this
theorem c0 (p : List Nat) (k : Nat) (most : Int) (hk : k < 60) (hm : (k : Int) ≤ most) : countS (p ++ fg k) p.length true most = (.int (k : Nat), p.length + (fg k).length, true) := by
  have := countS_at p [] k most hk hm ends_nil
  simpa using this
theorem fit_ring (nm : List Nat) (hn : nameB nm = true) (js : List PV) (r : Nat) : fitL (wRing ++ nm) (.glo 3 :: js) r = some (.tup [.str sR, .str nm], 0) := by
  refine fit_hit rfl ?_
  unfold sh_ring
  simp only [w0, n0 wRing nm hn, List.length_append]
theorem fit_do (nm : List Nat) (hn : nameB nm = true) (js : List PV) (r : Nat) : fitL (wDo ++ nm) (.glo 10 :: js) r = some (.tup [.str sDo, .str nm], 0) := by
  refine fit_hit rfl ?_
  unfold sh_do
  simp only [w0, n0 wDo nm hn, List.length_append]
theorem fit_cells (w : List Nat) (h2 : 2 ≤ w.length) (h12 : w.length ≤ 12) (hw : ∀ c ∈ w, c = 97 ∨ c = 98 ∨ c = 99) (js : List PV) (r : Nat) : fitL (wCells ++ w) (.glo 4 :: js) r = some (.tup [.str sCells, .str w], 0) := by
  refine fit_hit rfl ?_
  unfold sh_cells
  have hs := signsN_at wCells w [] [97, 98, 99] 12 (fun c hc => by simpa using hw c hc) h12 (fun c h => by cases h)
  rw [List.append_nil] at hs
  simp only [w0, hs, List.drop_left' rfl, List.length_append, List.take_length]
  have : (2 : Int) ≤ (w.length : Nat) := by omega
  simp [this]
theorem fit_last_ (k : Nat) (hk : k ≤ 11) (js : List PV) (r : Nat) : fitL (wLast ++ fg k) (.glo 11 :: js) r = some (.tup [.str sLast, .int (k : Nat)], 0) := by
  refine fit_hit rfl ?_
  unfold sh_last
  simp only [w0, c0 wLast k 11 (by omega) (by omega), List.length_append]
theorem fit_cuts_ (k : Nat) (hk : k ≤ 4) (js : List PV) (r : Nat) : fitL (wCuts ++ fg k) (.glo 12 :: js) r = some (.tup [.str sCuts, .int (k : Nat)], 0) := by
  refine fit_hit rfl ?_
  unfold sh_cuts
  simp only [w0, c0 wCuts k 4 (by omega) (by omega), List.length_append]
theorem fit_end_ (js : List PV) (r : Nat) : fitL sEnd (.glo 13 :: js) r = some (.tup [.str sEnd], 0) := by
  refine fit_hit rfl ?_
  unfold sh_close
  have := w0 sEnd []
  rw [List.append_nil] at this
  simp only [this]
theorem fit_two (w1 w2 n1 : List Nat) (h1 : nameB n1 = true) (hw2 : ∃ r, w2 = 32 :: r) (x : List Nat) : 
    nameS (w1 ++ (n1 ++ (w2 ++ x))) w1.length true = (n1, w1.length + n1.length, true) ∧ wordS (w1 ++ (n1 ++ (w2 ++ x))) w2 (w1.length + n1.length) true = (w1.length + n1.length + w2.length, true) := by
  obtain ⟨q, rfl⟩ := hw2
  refine ⟨nameS_at w1 n1 _ h1 (ends_sp _), ?_⟩
  have := wordS_at (32 :: q) (w1 ++ n1) x
  rw [List.length_append, List.append_assoc] at this
  exact this
theorem fit_three (w1 w2 n1 : List Nat) (n2 : List Nat) (h2 : nameB n2 = true) : nameS (w1 ++ (n1 ++ (w2 ++ n2))) (w1.length + n1.length + w2.length) true = (n2, w1.length + n1.length + w2.length + n2.length, true) := by
  have := n0 (w1 ++ (n1 ++ w2)) n2 h2
  rw [List.append_assoc, List.append_assoc] at this
  simp only [List.length_append] at this
  rw [← Nat.add_assoc] at this
  exact this
theorem fit_head (w nm ring : List Nat) (j : Nat) (hj : shOf j = some (sh_head w)) (hn : nameB nm = true) (hr : nameB ring = true) (js : List PV) (r : Nat) : fitL (headL w nm ring) (.glo j :: js) r = some (.tup [.str w, .str nm, .str ring], 0) := by
  refine fit_hit hj ?_
  unfold sh_head
  have e : headL w nm ring = (w ++ [32]) ++ (nm ++ (wOn ++ ring)) := by simp [headL]
  rw [e]
  generalize w ++ [32] = p
  obtain ⟨a, b⟩ := fit_two p wOn nm hn ⟨_, rfl⟩ ring
  have c := fit_three p wOn nm ring hr
  simp only [w0, a, b, c, List.length_append]
  simp only [Prod.mk.injEq, and_true, true_and]
  omega
theorem fit_carry (n1 n2 : List Nat) (h1 : nameB n1 = true) (h2 : nameB n2 = true) (js : List PV) (r : Nat) : fitL (carL (n1, n2)) (.glo 9 :: js) r = some (.tup [.str sCarry, .str n1, .str n2], 0) := by
  refine fit_hit rfl ?_
  unfold sh_carry carL
  obtain ⟨a, b⟩ := fit_two wCarry wTo n1 h1 ⟨_, rfl⟩ n2
  have c := fit_three wCarry wTo n1 n2 h2
  simp only [w0, a, b, c, List.length_append]
  simp only [Prod.mk.injEq, and_true, true_and]
  omega
theorem fit_bin (n1 : List Nat) (k : Nat) (h1 : nameB n1 = true) (hk : k ≤ 11) (js : List PV) (r : Nat) : fitL (binL (n1, k)) (.glo 5 :: js) r = some (.tup [.str sBin, .str n1, .int (k : Nat)], 0) := by
  refine fit_hit rfl ?_
  unfold sh_bin binL
  obtain ⟨a, b⟩ := fit_two wBin wAt n1 h1 ⟨_, rfl⟩ (fg k)
  have c := c0 (wBin ++ (n1 ++ wAt)) k 11 (by omega) (by omega)
  rw [List.append_assoc, List.append_assoc] at c
  simp only [List.length_append] at c
  rw [← Nat.add_assoc] at c
  simp only [w0, a, b, c, List.length_append]
  simp only [Prod.mk.injEq, and_true, true_and]
  omega
/-! what does not fit -/
theorem no_bin (t : List Nat) (h : t[0]? ≠ some 98) : (sh_bin t 0 true).2.2 = false := by
  unfold sh_bin
  have := wordS_miss t [105, 110, 32] 98 0 true h
  simp only [show wBin = 98 :: [105, 110, 32] from rfl, this, nameS_no, show wAt = 32 :: [97, 116, 32] from rfl, wordS_no, countS_no]
theorem no_ring (t : List Nat) (h : t[0]? ≠ some 114) : (sh_ring t 0 true).2.2 = false := by
  unfold sh_ring
  have := wordS_miss t [105, 110, 103, 32] 114 0 true h
  simp only [show wRing = 114 :: [105, 110, 103, 32] from rfl, this, nameS_no]
theorem no_head (t w : List Nat) (c : Nat) (h : t[0]? ≠ some c) : (sh_head (c :: w) t 0 true).2.2 = false := by
  unfold sh_head
  have := wordS_miss t (w ++ [32]) c 0 true h
  simp only [List.cons_append, this, nameS_no, wordS_no]
theorem no_carry (t : List Nat) (h : wordS t wCarry 0 true = (1, false) ∨ t[0]? ≠ some 99) : (sh_carry t 0 true).2.2 = false := by
  unfold sh_carry
  rcases h with h | h
  · simp only [h, nameS_no, wordS_no]
  · have := wordS_miss t [97, 114, 114, 121, 32] 99 0 true h
    simp only [show wCarry = 99 :: [97, 114, 114, 121, 32] from rfl, this, nameS_no, wordS_no]
theorem no_do (t : List Nat) (h : t[0]? ≠ some 100) : (sh_do t 0 true).2.2 = false := by
  unfold sh_do
  have := wordS_miss t [111, 32] 100 0 true h
  simp only [show wDo = 100 :: [111, 32] from rfl, this, nameS_no]
theorem no_last (t : List Nat) (h : t[0]? ≠ some 108) : (sh_last t 0 true).2.2 = false := by
  unfold sh_last
  have := wordS_miss t [97, 115, 116, 32] 108 0 true h
  simp only [show wLast = 108 :: [97, 115, 116, 32] from rfl, this, countS_no]
theorem fit_end_bin : fitL sEnd [.glo 5, .glo 13] 0 = some (.tup [.str sEnd], 0) := by
  rw [fit_skip (f := sh_bin) rfl (no_bin _ (by decide)), fit_end_]
theorem fit_job (nm ring : List Nat) (hn : nameB nm = true) (hr : nameB ring = true) (sort : Nat) (hs : sort ≤ 1) : fitL (headL sJ nm ring) ([PV.glo 3, .glo 7, .glo 8].drop sort) 0 = some (.tup [.str sJ, .str nm, .str ring], 0) := by
  have : sort = 0 ∨ sort = 1 := by omega
  rcases this with rfl | rfl
  · show fitL _ [PV.glo 3, .glo 7, .glo 8] 0 = _
    rw [fit_skip (f := sh_ring) rfl (no_ring _ (by simp [headL, sJ])), fit_head sJ nm ring 7 rfl hn hr]
  · show fitL _ [PV.glo 7, .glo 8] 0 = _
    rw [fit_head sJ nm ring 7 rfl hn hr]
theorem fit_day (nm ring : List Nat) (hn : nameB nm = true) (hr : nameB ring = true) (sort : Nat) (hs : sort ≤ 2) : fitL (headL sD nm ring) ([PV.glo 3, .glo 7, .glo 8].drop sort) 0 = some (.tup [.str sD, .str nm, .str ring], 0) := by
  have : sort = 0 ∨ sort = 1 ∨ sort = 2 := by omega
  rcases this with rfl | rfl | rfl
  · show fitL _ [PV.glo 3, .glo 7, .glo 8] 0 = _
    rw [fit_skip (f := sh_ring) rfl (no_ring _ (by simp [headL, sD])), fit_skip (f := sh_head sJ) rfl (no_head _ _ 106 (by simp [headL, sD])), fit_head sD nm ring 8 rfl hn hr]
  · show fitL _ [PV.glo 7, .glo 8] 0 = _
    rw [fit_skip (f := sh_head sJ) rfl (no_head _ _ 106 (by simp [headL, sD])), fit_head sD nm ring 8 rfl hn hr]
  · show fitL _ [PV.glo 8] 0 = _
    rw [fit_head sD nm ring 8 rfl hn hr]
theorem no_carry_cuts (x : List Nat) : (sh_carry (wCuts ++ x) 0 true).2.2 = false := no_carry _ (.inl (by simp [wordS, wCarry, wCuts]))
theorem fit_last9 (k : Nat) (hk : k ≤ 11) : fitL (wLast ++ fg k) [.glo 9, .glo 11, .glo 12] 0 = some (.tup [.str sLast, .int (k : Nat)], 0) := by
  rw [fit_skip (f := sh_carry) rfl (no_carry _ (.inr (by simp [wLast]))), fit_last_ k hk]
theorem fit_last10 (k : Nat) (hk : k ≤ 11) : fitL (wLast ++ fg k) [.glo 10, .glo 11, .glo 12] 0 = some (.tup [.str sLast, .int (k : Nat)], 0) := by
  rw [fit_skip (f := sh_do) rfl (no_do _ (by simp [wLast])), fit_last_ k hk]
theorem fit_cuts9 (k : Nat) (hk : k ≤ 4) : fitL (wCuts ++ fg k) [.glo 9, .glo 11, .glo 12] 0 = some (.tup [.str sCuts, .int (k : Nat)], 0) := by
  rw [fit_skip (f := sh_carry) rfl (no_carry_cuts _), fit_skip (f := sh_last) rfl (no_last _ (by simp [wCuts])), fit_cuts_ k hk]
theorem fit_cuts10 (k : Nat) (hk : k ≤ 4) : fitL (wCuts ++ fg k) [.glo 10, .glo 11, .glo 12] 0 = some (.tup [.str sCuts, .int (k : Nat)], 0) := by
  rw [fit_skip (f := sh_do) rfl (no_do _ (by simp [wCuts])), fit_skip (f := sh_last) rfl (no_last _ (by simp [wCuts])), fit_cuts_ k hk]
end K29
namespace K29
open PySem L2 Mini
theorem drop_at {α : Type} {L : List α} {k : Nat} {x : α} {X : List α} (h : L.drop k = x :: X) : L[k]? = some x ∧ L.drop (k + 1) = X := by
  constructor
  · have : (L.drop k)[0]? = some x := by rw [h]; rfl
    rw [List.getElem?_drop] at this
    simpa using this
  · have : (L.drop k).drop 1 = X := by rw [h]; rfl
    rw [List.drop_drop] at this
    exact this
theorem row_of {L : List (List Nat)} {k : Nat} {l : List Nat} {X : List (List Nat)} {js v : List PV} {r : Nat} (h : L.drop k = l :: X) (hl : l.length ≤ cap) (hf : fitL l js 0 = some (.tup v, r)) : rowS L k js = some (.tup v, k + 1) ∧ L.drop (k + 1) = X := by
  obtain ⟨h1, h2⟩ := drop_at h
  unfold rowS
  simp only [h1, if_pos hl, hf]
  exact ⟨trivial, h2⟩
theorem nm_len {nm : List Nat} (h : nameB nm = true) : nm.length ≤ 8 := (nameB_is h).2.1
theorem bins_many (L : List (List Nat)) : ∀ (B : List (List Nat × Nat)) (n k : Nat) (acc : List PV) (rest : List (List Nat)), (∀ q ∈ B, nameB q.1 = true ∧ q.2 ≤ 11) → B.length < n → L.drop k = B.map binL ++ sEnd :: rest →
    manyS L [.glo 5, .glo 13] (fun w => decide (w = sBin)) n k acc = some (acc ++ B.map binP, [.str sEnd], k + B.length + 1) ∧ L.drop (k + B.length + 1) = rest
  | [], n, k, acc, rest, hB, hn, h => by
    obtain ⟨n, rfl⟩ : ∃ n', n = n' + 1 := ⟨n - 1, by simp at hn; omega⟩
    simp only [List.map_nil, List.nil_append] at h
    obtain ⟨r1, r2⟩ := row_of (js := [.glo 5, .glo 13]) h (by decide) fit_end_bin
    unfold manyS
    rw [r1]
    have : (decide (sEnd = sBin)) = false := by decide
    simp only [this, List.map_nil, List.append_nil]
    exact ⟨rfl, r2⟩
  | q :: B, n, k, acc, rest, hB, hn, h => by
    obtain ⟨n, rfl⟩ : ∃ n', n = n' + 1 := ⟨n - 1, by simp at hn; omega⟩
    obtain ⟨hq1, hq2⟩ := hB q (by simp)
    simp only [List.map_cons, List.cons_append] at h
    have hl : (binL q).length ≤ cap := by
      have := nm_len hq1
      have := fg_len q.2
      simp [binL, wBin, wAt, cap]
      omega
    obtain ⟨r1, r2⟩ := row_of (js := [.glo 5, .glo 13]) h hl (fit_bin q.1 q.2 hq1 hq2 _ _)
    obtain ⟨i1, i2⟩ := bins_many L B n (k + 1) (acc ++ [binP q]) rest (fun p hp => hB p (by simp [hp])) (by simp at hn; omega) r2
    unfold manyS
    rw [r1]
    simp only [decide_true, if_true]
    have e : acc ++ [PV.tup [.str q.1, .int (q.2 : Nat)]] = acc ++ [binP q] := rfl
    rw [e, i1]
    have e2 : k + 1 + B.length + 1 = k + (q :: B).length + 1 := by simp; omega
    rw [e2] at i2 ⊢
    exact ⟨by simp, i2⟩
theorem ring_ok (nm w : List Nat) (B : List (List Nat × Nat)) (L : List (List Nat)) (k : Nat) (rest : List (List Nat)) (hw : 2 ≤ w.length ∧ w.length ≤ 12 ∧ ∀ c ∈ w, c = 97 ∨ c = 98 ∨ c = 99) (hB : ∀ q ∈ B, nameB q.1 = true ∧ q.2 ≤ 11) (h : L.drop k = (wCells ++ w) :: (B.map binL ++ sEnd :: rest)) :
    ringS nm L k = some (.tup [.str nm, .str w, .tup (B.map binP)], k + B.length + 2) ∧ L.drop (k + B.length + 2) = rest := by
  obtain ⟨h2, h12, habc⟩ := hw
  obtain ⟨r1, r2⟩ := row_of (js := [.glo 4]) h (by simp [wCells, cap]; omega) (fit_cells w h2 h12 habc _ _)
  have hlen : B.length < L.length + 1 := by
    have := congrArg List.length r2
    simp only [List.length_drop, List.length_append, List.length_map, List.length_cons] at this
    omega
  obtain ⟨i1, i2⟩ := bins_many L B (L.length + 1) (k + 1) [] rest hB hlen r2
  unfold ringS
  rw [r1]
  simp only [i1]
  have e2 : k + 1 + B.length + 1 = k + B.length + 2 := by omega
  rw [e2] at i2 ⊢
  exact ⟨by simp, i2⟩
/-- what rows of a job, a day are -/
structure RowK (j : Nat) (w : List Nat) (line : PV → List Nat) (ok : PV → Prop) : Prop where
  go : w ≠ sLast ∧ w ≠ sCuts
  fit : ∀ x, ok x → ∃ rest, x = .tup rest ∧ ∀ js r, fitL (line x) (.glo j :: js) r = some (.tup (.str w :: rest), 0)
  len : ∀ x, ok x → (line x).length ≤ cap
  last : ∀ k, k ≤ 11 → fitL (wLast ++ fg k) [.glo j, .glo 11, .glo 12] 0 = some (.tup [.str sLast, .int (k : Nat)], 0)
  cuts : ∀ k, k ≤ 4 → fitL (wCuts ++ fg k) [.glo j, .glo 11, .glo 12] 0 = some (.tup [.str sCuts, .int (k : Nat)], 0)
def lineC : PV → List Nat
  | .tup [.str a, .str b] => carL (a, b)
  | _ => []
def lineJ : PV → List Nat
  | .tup [.str a] => wDo ++ a
  | _ => []
theorem rowK_job : RowK 9 sCarry lineC (fun x => ∃ a b, x = .tup [.str a, .str b] ∧ nameB a = true ∧ nameB b = true) where
  go := by decide
  fit := fun x ⟨a, b, e, ha, hb⟩ => ⟨[.str a, .str b], e, fun js r => by subst e; exact fit_carry a b ha hb js r⟩
  len := fun x ⟨a, b, e, ha, hb⟩ => by
    subst e
    have := nm_len ha
    have := nm_len hb
    simp [lineC, carL, wCarry, wTo, cap]
    omega
  last := fit_last9
  cuts := fit_cuts9
theorem rowK_day : RowK 10 sDo lineJ (fun x => ∃ a, x = .tup [.str a] ∧ nameB a = true) where
  go := by decide
  fit := fun x ⟨a, e, ha⟩ => ⟨[.str a], e, fun js r => by subst e; exact fit_do a ha js r⟩
  len := fun x ⟨a, e, ha⟩ => by
    subst e
    have := nm_len ha
    simp [lineJ, wDo, cap]
    omega
  last := fit_last10
  cuts := fit_cuts10
theorem rows_many {j : Nat} {w : List Nat} {line : PV → List Nat} {ok : PV → Prop} (K : RowK j w line ok) (L : List (List Nat)) (endl : List Nat) (w2 : List Nat) (c : Nat) (hend : fitL endl [.glo j, .glo 11, .glo 12] 0 = some (.tup [.str w2, .int (c : Nat)], 0)) (hel : endl.length ≤ cap) (hw2 : w2 ∈ [sLast, sCuts]) : ∀ (xs : List PV) (n k : Nat) (acc : List PV) (rest : List (List Nat)),
    (∀ x ∈ xs, ok x) → xs.length < n → L.drop k = xs.map line ++ endl :: rest →
    manyS L [.glo j, .glo 11, .glo 12] (fun w => !decide (w ∈ [sLast, sCuts])) n k acc = some (acc ++ xs, [.str w2, .int (c : Nat)], k + xs.length + 1) ∧ L.drop (k + xs.length + 1) = rest
  | [], n, k, acc, rest, hx, hn, h => by
    obtain ⟨n, rfl⟩ : ∃ n', n = n' + 1 := ⟨n - 1, by simp at hn; omega⟩
    simp only [List.map_nil, List.nil_append] at h
    obtain ⟨r1, r2⟩ := row_of (js := [.glo j, .glo 11, .glo 12]) h hel hend
    unfold manyS
    rw [r1]
    have : (!decide (w2 ∈ [sLast, sCuts])) = false := by simp only [hw2, decide_true, Bool.not_true]
    simp only [this, List.append_nil]
    exact ⟨rfl, r2⟩
  | x :: xs, n, k, acc, rest, hx, hn, h => by
    obtain ⟨n, rfl⟩ : ∃ n', n = n' + 1 := ⟨n - 1, by simp at hn; omega⟩
    obtain ⟨rs, e, hf⟩ := K.fit x (hx x (by simp))
    simp only [List.map_cons, List.cons_append] at h
    obtain ⟨r1, r2⟩ := row_of (js := [.glo j, .glo 11, .glo 12]) h (K.len x (hx x (by simp))) (hf _ _)
    obtain ⟨i1, i2⟩ := rows_many K L endl w2 c hend hel hw2 xs n (k + 1) (acc ++ [x]) rest (fun p hp => hx p (by simp [hp])) (by simp at hn; omega) r2
    unfold manyS
    rw [r1]
    have : (!decide (w ∈ [sLast, sCuts])) = true := by
      have : w ∉ [sLast, sCuts] := by simp [K.go.1, K.go.2]
      simp only [this, decide_false, Bool.not_false]
    simp only [this, if_true]
    subst e
    rw [i1]
    have e2 : k + 1 + xs.length + 1 = k + (PV.tup rs :: xs).length + 1 := by simp; omega
    rw [e2] at i2 ⊢
    exact ⟨by simp, i2⟩
theorem rows_ok {j : Nat} {w : List Nat} {line : PV → List Nat} {ok : PV → Prop} (K : RowK j w line ok) (kind nm ring : List Nat) (x : PV) (xs : List PV) (last : Option Nat) (cuts : Nat) (hl : ∀ l, last = some l → l ≤ 11) (hc : cuts ≤ 4) (hx : ∀ y ∈ x :: xs, ok y) (L : List (List Nat)) (k : Nat) (rest : List (List Nat))
    (h : L.drop k = (x :: xs).map line ++ (endL last cuts ++ rest)) (rows : List PV) (hr : (if kind = sJ then some (x :: xs) else firsts (x :: xs)) = some rows) :
    rowsS kind nm ring j L k = some (.tup [.str nm, .str ring, .tup rows, optP last, .int (cuts : Nat)], k + (x :: xs).length + (endL last cuts).length) ∧ L.drop (k + (x :: xs).length + (endL last cuts).length) = rest := by
  obtain ⟨rs, e, hf⟩ := K.fit x (hx x (by simp))
  simp only [List.map_cons, List.cons_append] at h
  obtain ⟨r1, r2⟩ := row_of (js := [.glo j]) h (K.len x (hx x (by simp))) (hf _ _)
  have hcl := fg_len cuts
  cases last with
  | none =>
    simp only [endL, List.nil_append, List.cons_append] at r2
    have hlen : xs.length < L.length + 1 := by
      have := congrArg List.length r2
      simp only [List.length_drop, List.length_append, List.length_map, List.length_cons] at this
      omega
    obtain ⟨i1, i2⟩ := rows_many K L (wCuts ++ fg cuts) sCuts cuts (K.cuts cuts hc) (by simp [wCuts, cap]; omega) (by decide) xs (L.length + 1) (k + 1) [.tup rs] (sEnd :: rest) (fun p hp => hx p (by simp [hp])) hlen r2
    obtain ⟨c1, c2⟩ := row_of (js := [.glo 13]) i2 (by decide) (fit_end_ _ _)
    unfold rowsS
    rw [r1]
    simp only [i1]
    have hls : lastS L sCuts (.int (cuts : Nat)) (k + 1 + xs.length + 1) = some (.non, .int (cuts : Nat), k + 1 + xs.length + 1) := by
      unfold lastS
      rw [if_neg (by decide)]
    simp only [hls]
    have ex : [PV.tup rs] ++ xs = x :: xs := by rw [e]; rfl
    rw [ex]
    simp only [c1]
    have e2 : k + 1 + xs.length + 1 + 1 = k + (x :: xs).length + (endL none cuts).length := by simp [endL]; omega
    rw [e2] at c2 ⊢
    refine ⟨?_, c2⟩
    by_cases hk : kind = sJ
    · rw [if_pos hk] at hr ⊢
      cases hr
      rfl
    · rw [if_neg hk] at hr ⊢
      simp only [hr]
      rfl
  | some l =>
    have hl11 := hl l rfl
    have hll := fg_len l
    simp only [endL, List.nil_append, List.cons_append] at r2
    have hlen : xs.length < L.length + 1 := by
      have := congrArg List.length r2
      simp only [List.length_drop, List.length_append, List.length_map, List.length_cons] at this
      omega
    obtain ⟨i1, i2⟩ := rows_many K L (wLast ++ fg l) sLast l (K.last l hl11) (by simp [wLast, cap]; omega) (by decide) xs (L.length + 1) (k + 1) [.tup rs] ((wCuts ++ fg cuts) :: sEnd :: rest) (fun p hp => hx p (by simp [hp])) hlen r2
    obtain ⟨d1, d2⟩ := row_of (js := [.glo 12]) i2 (by simp [wCuts, cap]; omega) (fit_cuts_ cuts hc _ _)
    obtain ⟨c1, c2⟩ := row_of (js := [.glo 13]) d2 (by decide) (fit_end_ _ _)
    unfold rowsS
    rw [r1]
    simp only [i1]
    have hls : lastS L sLast (.int (l : Nat)) (k + 1 + xs.length + 1) = some (.int (l : Nat), .int (cuts : Nat), k + 1 + xs.length + 1 + 1) := by
      unfold lastS
      rw [if_pos rfl, d1]
    simp only [hls]
    have ex : [PV.tup rs] ++ xs = x :: xs := by rw [e]; rfl
    rw [ex]
    simp only [c1]
    have e2 : k + 1 + xs.length + 1 + 1 + 1 = k + (x :: xs).length + (endL (some l) cuts).length := by simp [endL]; omega
    rw [e2] at c2 ⊢
    refine ⟨?_, c2⟩
    by_cases hk : kind = sJ
    · rw [if_pos hk] at hr ⊢
      cases hr
      rfl
    · rw [if_neg hk] at hr ⊢
      simp only [hr]
      rfl
end K29
namespace K29
open PySem L2 Mini
structure JobD where
  nm : List Nat
  C : List (List Nat × List Nat)
  last : Option Nat
  cuts : Nat
def jobV (q : JobD) : PV := .tup [.str q.nm, .str sRr, .tup (q.C.map prP), optP q.last, .int (q.cuts : Nat)]
def jobT (q : JobD) : List (List Nat) := jobL q.nm sRr q.C q.last q.cuts
structure JobOk (q : JobD) : Prop where
  nm : nameB q.nm = true
  ne : q.C ≠ []
  few : q.C.length ≤ 1000
  names : ∀ p ∈ q.C, nameB p.1 = true ∧ nameB p.2 = true
  last : ∀ l, q.last = some l → l ≤ 11
  cuts : q.cuts ≤ 4
theorem nameB_rr : nameB sRr = true := by decide
theorem head_len {w nm ring : List Nat} (hw : w.length = 3) (hn : nameB nm = true) (hr : nameB ring = true) : (headL w nm ring).length ≤ cap := by
  have := nm_len hn
  have := nm_len hr
  simp [headL, wOn, cap, hw]
  omega
theorem job_ok (q : JobD) (h : JobOk q) (L : List (List Nat)) (k : Nat) (rest : List (List Nat)) (hd : L.drop k = q.C.map carL ++ (endL q.last q.cuts ++ rest)) :
    ∃ k', rowsS sJ q.nm sRr 9 L k = some (jobV q, k') ∧ L.drop k' = rest := by
  have e : q.C.map carL = (q.C.map prP).map lineC := by
    rw [List.map_map]
    rfl
  rw [e] at hd
  match hC : q.C, h.ne with
  | c :: cs, _ =>
    rw [hC, List.map_cons] at hd
    have := rows_ok rowK_job sJ q.nm sRr (prP c) (cs.map prP) q.last q.cuts h.last h.cuts (fun y hy => by
      rw [← List.map_cons] at hy
      obtain ⟨p, hp, rfl⟩ := List.mem_map.mp hy
      have := h.names p (by rw [hC]; exact hp)
      exact ⟨p.1, p.2, rfl, this.1, this.2⟩) L k rest hd ((q.C).map prP) (by rw [hC]; rfl)
    exact ⟨_, this.1, this.2⟩
theorem day_ok (nm : List Nat) (J : List (List Nat)) (last : Option Nat) (cuts : Nat) (hne : J ≠ []) (hJ : ∀ j ∈ J, nameB j = true) (hl : ∀ l, last = some l → l ≤ 11) (hc : cuts ≤ 4) (L : List (List Nat)) (k : Nat) (rest : List (List Nat)) (hd : L.drop k = J.map (wDo ++ ·) ++ (endL last cuts ++ rest)) :
    ∃ k', rowsS sD nm sRr 10 L k = some (.tup [.str nm, .str sRr, .tup (J.map PV.str), optP last, .int (cuts : Nat)], k') ∧ L.drop k' = rest := by
  have e : J.map (wDo ++ ·) = (J.map fun j => PV.tup [.str j]).map lineJ := by
    rw [List.map_map]
    rfl
  rw [e] at hd
  have hf : ∀ J : List (List Nat), firsts (J.map fun j => PV.tup [.str j]) = some (J.map PV.str) := fun J => by
    induction J with
    | nil => rfl
    | cons j J ih => simp [firsts, ih]
  match J, hne, hJ, hd with
  | c :: cs, _, hJ, hd =>
    rw [List.map_cons] at hd
    have hfs := hf (c :: cs)
    have := rows_ok rowK_day sD nm sRr (.tup [.str c]) (cs.map fun j => PV.tup [.str j]) last cuts hl hc (fun y hy => by
      rw [← List.map_cons (f := fun j => PV.tup [PV.str j])] at hy
      obtain ⟨p, hp, rfl⟩ := List.mem_map.mp hy
      exact ⟨p, rfl, hJ p hp⟩) L k rest hd ((c :: cs).map PV.str) (by rw [if_neg (by decide)]; exact hfs)
    exact ⟨_, this.1, this.2⟩
theorem read_jobs (L : List (List Nat)) : ∀ (js : List JobD) (n k sort : Nat) (f0 f1 f2 : List PV) (rest : List (List Nat)), (∀ q ∈ js, JobOk q) → sort ≤ 1 → L.drop k = (js.map jobT).flatten ++ rest →
    ∃ k' sort', sort' ≤ 1 ∧ L.drop k' = rest ∧ readS L (n + js.length) k sort f0 f1 f2 = readS L n k' sort' f0 (f1 ++ js.map jobV) f2
  | [], n, k, sort, f0, f1, f2, rest, hj, hs, h => ⟨k, sort, hs, by simpa using h, by simp⟩
  | q :: js, n, k, sort, f0, f1, f2, rest, hj, hs, h => by
    have hq := hj q (by simp)
    simp only [List.map_cons, List.flatten_cons, jobT, jobL, List.cons_append, List.append_assoc] at h
    obtain ⟨r1, r2⟩ := row_of (js := [PV.glo 3, .glo 7, .glo 8].drop sort) h (head_len rfl hq.nm nameB_rr) (fit_job q.nm sRr hq.nm nameB_rr sort hs)
    obtain ⟨k1, j1, j2⟩ := job_ok q hq L (k + 1) _ r2
    obtain ⟨k', sort', a, b, c⟩ := read_jobs L js n k1 1 f0 (f1 ++ [jobV q]) f2 rest (fun p hp => hj p (by simp [hp])) (Nat.le_refl _) j2
    refine ⟨k', sort', a, b, ?_⟩
    have hk : k < L.length := by
      have := congrArg List.length h
      simp only [List.length_drop, List.length_cons] at this
      omega
    have e : n + (q :: js).length = (n + js.length) + 1 := by simp; omega
    rw [e]
    conv => lhs; unfold readS
    rw [if_pos hk, r1]
    simp only [if_true, j1, c]
    simp
theorem read_day (L : List (List Nat)) (nm : List Nat) (J : List (List Nat)) (last : Option Nat) (cuts : Nat) (hn : nameB nm = true) (hne : J ≠ []) (hJ : ∀ j ∈ J, nameB j = true) (hl : ∀ l, last = some l → l ≤ 11) (hc : cuts ≤ 4) (n k sort : Nat) (f0 f1 f2 : List PV) (hs : sort ≤ 2) (rest : List (List Nat)) (h : L.drop k = dayL nm sRr J last cuts ++ rest) :
    ∃ k', L.drop k' = rest ∧ readS L (n + 1) k sort f0 f1 f2 = readS L n k' 2 f0 f1 (f2 ++ [.tup [.str nm, .str sRr, .tup (J.map PV.str), optP last, .int (cuts : Nat)]]) := by
  simp only [dayL, List.cons_append, List.append_assoc] at h
  obtain ⟨r1, r2⟩ := row_of (js := [PV.glo 3, .glo 7, .glo 8].drop sort) h (head_len rfl hn nameB_rr) (fit_day nm sRr hn nameB_rr sort hs)
  obtain ⟨k1, j1, j2⟩ := day_ok nm J last cuts hne hJ hl hc L (k + 1) _ r2
  refine ⟨k1, j2, ?_⟩
  have hk : k < L.length := by
    have := congrArg List.length h
    simp only [List.length_drop, List.length_cons] at this
    omega
  conv => lhs; unfold readS
  rw [if_pos hk, r1]
  have h1 : ¬ sD = sJ := by decide
  simp only [h1, if_false, if_true, j1]
theorem read_ring (L : List (List Nat)) (w : List Nat) (B : List (List Nat × Nat)) (hw : 2 ≤ w.length ∧ w.length ≤ 12 ∧ ∀ c ∈ w, c = 97 ∨ c = 98 ∨ c = 99) (hB : ∀ q ∈ B, nameB q.1 = true ∧ q.2 ≤ 11) (n : Nat) (rest : List (List Nat)) (h : L = ringL sRr w B ++ rest) :
    ∃ k', L.drop k' = rest ∧ readS L (n + 1) 0 0 [] [] [] = readS L n k' 0 [.tup [.str sRr, .str w, .tup (B.map binP)]] [] [] := by
  have h0 : L.drop 0 = (wRing ++ sRr) :: ((wCells ++ w) :: (B.map binL ++ sEnd :: rest)) := by
    rw [h]
    simp [ringL]
  obtain ⟨r1, r2⟩ := row_of (js := [PV.glo 3, .glo 7, .glo 8].drop 0) h0 (by decide) (fit_ring sRr nameB_rr _ _)
  obtain ⟨g1, g2⟩ := ring_ok sRr w B L 1 rest hw hB r2
  refine ⟨_, g2, ?_⟩
  have hk : 0 < L.length := by
    rw [h]
    simp [ringL]
  conv => lhs; unfold readS
  rw [if_pos hk, r1]
  simp only [if_true, g1]
  rfl
theorem read_end (L : List (List Nat)) (n k sort : Nat) (f0 f1 f2 : List PV) (h : L.drop k = []) : readS L (n + 1) k sort f0 f1 f2 = some (f0, f1, f2) := by
  have : ¬ k < L.length := by
    have := congrArg List.length h
    simp at this
    omega
  unfold readS
  rw [if_neg this]
/-! ### printed again -/
theorem binsOf_map : ∀ B : List (List Nat × Nat), (∀ q ∈ B, q.1.length ≤ cap ∧ q.2 < 60) → binsOf (B.map binP) = some B
  | [], _ => rfl
  | q :: B, h => by
    have hq := h q (by simp)
    have h2 : (q.2 : Int) < 60 := by omega
    simp [binsOf, binP, hq.1, h2]
    exact binsOf_map B (fun p hp => h p (by simp [hp]))
theorem prsOf_map : ∀ B : List (List Nat × List Nat), (∀ q ∈ B, q.1.length ≤ cap ∧ q.2.length ≤ cap) → prsOf (B.map prP) = some B
  | [], _ => rfl
  | q :: B, h => by
    have hq := h q (by simp)
    simp [prsOf, prP, hq.1, hq.2]
    exact prsOf_map B (fun p hp => h p (by simp [hp]))
theorem lastOf_P (l : Option Nat) (h : ∀ k, l = some k → k < 60) : lastOf (optP l) = some l := by
  cases l with
  | none => rfl
  | some k =>
    have := h k rfl
    simp [lastOf, optP]
    omega
theorem ringQ_ok (w : List Nat) (B : List (List Nat × Nat)) (hw : w.length ≤ cap) (hB : ∀ q ∈ B, q.1.length ≤ cap ∧ q.2 < 60) (hl : B.length ≤ 10000) : ringQ (.tup [.str sRr, .str w, .tup (B.map binP)]) = some (ringL sRr w B) := by
  have : sRr.length ≤ cap := by decide
  simp [ringQ, binsOf_map B hB, hw, hl, this]
theorem jobQ_ok (q : JobD) (h : JobOk q) : jobQ (jobV q) = some (jobT q) := by
  have h1 : sRr.length ≤ cap := by decide
  have hcap : cap = 600 := rfl
  have h2 : q.nm.length ≤ cap := by have := nm_len h.nm; omega
  have h3 := prsOf_map q.C fun p hp => by
    have := nm_len (h.names p hp).1
    have := nm_len (h.names p hp).2
    omega
  have h4 := lastOf_P q.last fun k hk => by have := h.last k hk; omega
  have h5 := numP_mk (c := q.cuts) (by have := h.cuts; omega)
  have h6 : q.C.length ≤ 10000 := by have := h.few; omega
  simp [jobQ, jobV, h3, h4, h5, h1, h2, h6, jobT]
theorem dayQ_ok (nm : List Nat) (J : List (List Nat)) (last : Option Nat) (cuts : Nat) (hn : nameB nm = true) (hJ : ∀ j ∈ J, nameB j = true) (hl : ∀ l, last = some l → l ≤ 11) (hc : cuts ≤ 4) (hJl : J.length ≤ 10000) : dayQ (.tup [.str nm, .str sRr, .tup (J.map PV.str), optP last, .int (cuts : Nat)]) = some (dayL nm sRr J last cuts) := by
  have h1 : sRr.length ≤ cap := by decide
  have hcap : cap = 600 := rfl
  have h2 : nm.length ≤ cap := by have := nm_len hn; omega
  have h4 := lastOf_P last fun k hk => by have := hl k hk; omega
  have h5 := numP_mk (c := cuts) (by omega)
  have h6 : ∀ j ∈ J, j.length ≤ cap := fun j hj => by have := nm_len (hJ j hj); omega
  simp only [dayQ, strsOf_map, h4, h5]
  rw [if_pos ⟨h2, h1, hJl, h6⟩]
end K29
namespace K29
open PySem L2 Mini
/-! ### the drawn task -/
structure Drawn (T : Task) : Prop where
  w0 : 3 ≤ T.w.length
  w1 : T.w.length ≤ 6
  abc : ∀ c ∈ T.w, c = 97 ∨ c = 98 ∨ c = 99
  ps : ∀ q ∈ T.ps, q.1 < T.w.length ∧ q.2 < T.w.length
  p0 : T.ps ≠ []
  p1 : T.ps.length ≤ 3
  gs : T.gs.length = T.ps.length
  last : ∀ l, T.last = some l → l < T.w.length
  cuts : T.cuts ≤ 3
theorem Drawn.ok {T : Task} (h : Drawn T) : TaskOk T := by
  have := h.w0
  have := h.w1
  have := h.p1
  exact ⟨by omega, by omega, h.gs.symm, by rw [h.gs]; omega, fun q hq => by have := h.ps q hq; omega, fun k hk => by have := h.last k hk; omega, by have := h.cuts; omega⟩
theorem nameB_x : ∀ k : Nat, k < 12 → nameB (xN k) = true := by decide +kernel
theorem nameB_j : ∀ k : Nat, k < 12 → nameB (jN k) = true := by decide +kernel
theorem lots_names {T : Task} (h : Drawn T) : ∀ lot ∈ lotsN T, lot ≠ [] ∧ lot.length ≤ 3 ∧ ∀ p ∈ lot, nameB p.1 = true ∧ nameB p.2 = true := fun lot hl => by
  unfold lotsN at hl
  obtain ⟨g, hg, rfl⟩ := List.mem_map.mp hl
  rw [mem_sdd] at hg
  obtain ⟨k, hk, rfl⟩ := List.mem_map.mp hg
  refine ⟨?_, Nat.le_trans (lot_len _ _ _) h.p1, fun p hp => ?_⟩
  · obtain ⟨i, hi⟩ := List.getElem?_of_mem hk
    have hil : i < T.gs.length := (List.getElem?_eq_some_iff.mp hi).1
    have hip : i < T.ps.length := by rw [← h.gs]; exact hil
    unfold lotN
    intro z
    have z := List.map_eq_nil_iff.mp z
    rw [List.filter_eq_nil_iff] at z
    have := z (T.ps[i], i) (by
      apply List.mem_of_getElem? (i := i)
      rw [List.getElem?_zipIdx]
      simp [hip])
    simp [List.getD, hi] at this
  · unfold lotN at hp
    obtain ⟨q, hq, rfl⟩ := List.mem_map.mp hp
    have hq := (List.mem_filter.mp hq).1
    obtain ⟨h1, _, _⟩ := mem_zipIdx hq
    have := h.ps q.1 h1
    have := h.w1
    exact ⟨nameB_x _ (by omega), nameB_x _ (by omega)⟩
theorem lots_len {T : Task} (h : Drawn T) : 0 < (lotsN T).length ∧ (lotsN T).length ≤ 3 := by
  unfold lotsN
  rw [List.length_map]
  constructor
  · have h0 : T.gs ≠ [] := fun z => h.p0 (List.length_eq_zero_iff.mp (by rw [← h.gs, z]; rfl))
    obtain ⟨g, gs, e⟩ := List.exists_cons_of_ne_nil h0
    apply List.length_pos_iff.mpr
    intro z
    have : (g : Int) ∈ sdd (T.gs.map fun (k : Nat) => (k : Int)) := mem_sdd.mpr (by rw [e]; simp)
    rw [z] at this
    simp at this
  · have := sdd_len (T.gs.map fun (k : Nat) => (k : Int))
    rw [List.length_map] at this
    have := h.p1
    have := h.gs
    omega
/-- the jobs of lots -/
def lotJ (q : List (List Nat × List Nat) × Nat) : JobD := ⟨jN q.2, q.1, none, 0⟩
theorem jobs_are (lots : List (List (List Nat × List Nat))) : jobsN lots = ((lots.zipIdx.map lotJ).map jobT).flatten := by
  unfold jobsN
  rw [List.map_map]
  rfl
theorem binsN_ok {n : Nat} (h : n ≤ 6) : ∀ q ∈ binsN n, nameB q.1 = true ∧ q.2 ≤ 11 := fun q hq => by
  unfold binsN at hq
  obtain ⟨k, hk, rfl⟩ := List.mem_map.mp hq
  have := List.mem_range.mp hk
  exact ⟨nameB_x k (by omega), by simp only; omega⟩
/-- read and printed again, lines that hold a ring, jobs and one day or none -/
theorem texts_back {T : Task} (h : Drawn T) (nm : List Nat) (hn : nameB nm = true) : ∃ a b c, readS (textsN T nm) 100001 0 0 [] [] [] = some (a, b, c) ∧ ∃ l1 l2, linesS ringQ a [] = some l1 ∧ linesS jobQ b l1 = some l2 ∧ linesS dayQ c l2 = some (textsN T nm) := by
  have hw0 := h.w0
  have hw1 := h.w1
  have hB := binsN_ok h.w1
  have hl3 := lots_len h
  have hln := lots_names h
  have hlast : ∀ l, T.last = some l → l ≤ 11 := fun l hl => by have := h.last l hl; omega
  have hcuts : T.cuts ≤ 4 := by have := h.cuts; omega
  have hw : 2 ≤ T.w.length ∧ T.w.length ≤ 12 ∧ ∀ c ∈ T.w, c = 97 ∨ c = 98 ∨ c = 99 := ⟨by omega, by omega, h.abc⟩
  have hcap : cap = 600 := rfl
  have hrq := ringQ_ok T.w (binsN T.w.length) (by omega) (fun q hq => by
    have := hB q hq
    have := nm_len this.1
    omega) (by simp [binsN]; omega)
  have hrl : (ringL sRr T.w (binsN T.w.length)).length ≤ 20 := by simp [ringL, binsN]; omega
  have hl1 : linesS ringQ [.tup [.str sRr, .str T.w, .tup ((binsN T.w.length).map binP)]] [] = some (ringL sRr T.w (binsN T.w.length)) := by
    simp only [linesS, hrq]
    rw [if_pos (by simp; omega)]
    rfl
  have hjl : ∀ q : JobD, JobOk q → q.C.length ≤ 3 → (jobT q).length ≤ 10 := fun q hq h3 => by
    have := end_len q.last q.cuts
    simp [jobT, jobL]
    omega
  have hjs : ∀ (js : List JobD) (acc : List (List Nat)), (∀ q ∈ js, JobOk q ∧ q.C.length ≤ 3) → acc.length + 10 * js.length ≤ 1000 → linesS jobQ (js.map jobV) acc = some (acc ++ (js.map jobT).flatten) := fun js => by
    induction js with
    | nil => intro acc _ _; simp [linesS]
    | cons q js ih =>
      intro acc hq hl
      obtain ⟨q1, q2⟩ := hq q (by simp)
      have := hjl q q1 q2
      simp only [List.length_cons] at hl
      simp only [List.map_cons, linesS, jobQ_ok q q1]
      rw [if_pos (by omega), ih (acc ++ jobT q) (fun p hp => hq p (by simp [hp])) (by simp only [List.length_append]; omega)]
      simp
  unfold textsN
  by_cases h1 : (lotsN T).length = 1
  · rw [if_pos h1]
    obtain ⟨lot, hlot⟩ : ∃ lot, lotsN T = [lot] := by
      match lotsN T, h1 with
      | [lot], _ => exact ⟨lot, rfl⟩
    rw [hlot]
    obtain ⟨n1, n2, n3⟩ := hln lot (by rw [hlot]; simp)
    have jok : JobOk ⟨nm, lot, T.last, T.cuts⟩ := ⟨hn, n1, by simp only; omega, n3, hlast, hcuts⟩
    obtain ⟨L, hL⟩ : ∃ L, ringL sRr T.w (binsN T.w.length) ++ jobL nm sRr ([lot].headD []) T.last T.cuts = L := ⟨_, rfl⟩
    obtain ⟨k1, d1, e1⟩ := read_ring L T.w _ hw hB 100000 _ hL.symm
    obtain ⟨k2, s2, _, d2, e2⟩ := read_jobs L [⟨nm, lot, T.last, T.cuts⟩] 99999 k1 0 [.tup [.str sRr, .str T.w, .tup ((binsN T.w.length).map binP)]] [] [] [] (by simpa using jok) (by omega) (by rw [d1]; simp [jobT])
    have e3 := read_end L 99998 k2 s2 [.tup [.str sRr, .str T.w, .tup ((binsN T.w.length).map binP)]] ([] ++ [(⟨nm, lot, T.last, T.cuts⟩ : JobD)].map jobV) [] d2
    rw [hL]
    refine ⟨_, _, _, e1.trans (e2.trans e3), _, _, hl1, hjs [⟨nm, lot, T.last, T.cuts⟩] _ (by simpa using ⟨jok, n2⟩) (by simp; omega), ?_⟩
    simp only [linesS]
    rw [← hL]
    simp [jobT]
  · rw [if_neg h1]
    have jok : ∀ q ∈ (lotsN T).zipIdx.map lotJ, JobOk q ∧ q.C.length ≤ 3 := fun q hq => by
      obtain ⟨⟨lot, k⟩, hp, rfl⟩ := List.mem_map.mp hq
      obtain ⟨m1, m2, _⟩ := mem_zipIdx hp
      obtain ⟨n1, n2, n3⟩ := hln lot m1
      exact ⟨⟨nameB_j k (by simp only at m2; omega), n1, by simp only [lotJ]; omega, n3, (fun l hl => by cases hl), by simp [lotJ]⟩, n2⟩
    have hJ : ∀ j ∈ (List.range (lotsN T).length).map jN, nameB j = true := fun j hj => by
      obtain ⟨k, hk, rfl⟩ := List.mem_map.mp hj
      have := List.mem_range.mp hk
      exact nameB_j k (by omega)
    have hJ0 : (List.range (lotsN T).length).map jN ≠ [] := fun z => by
      have := congrArg List.length z
      rw [List.length_map, List.length_range, List.length_nil] at this
      omega
    rw [jobs_are]
    have hzl : ((lotsN T).zipIdx.map lotJ).length ≤ 3 := by simp; omega
    generalize (lotsN T).zipIdx.map lotJ = js at *
    obtain ⟨L, hL⟩ : ∃ L, ringL sRr T.w (binsN T.w.length) ++ ((js.map jobT).flatten ++ dayL nm sRr ((List.range (lotsN T).length).map jN) T.last T.cuts) = L := ⟨_, rfl⟩
    obtain ⟨k1, d1, e1⟩ := read_ring L T.w _ hw hB 100000 _ hL.symm
    obtain ⟨k2, s2, hs2, d2, e2⟩ := read_jobs L js (100000 - js.length) k1 0 [.tup [.str sRr, .str T.w, .tup ((binsN T.w.length).map binP)]] [] [] _ (fun q hq => (jok q hq).1) (by omega) d1
    obtain ⟨k3, d3, e3⟩ := read_day L nm _ T.last T.cuts hn hJ0 hJ hlast hcuts (99999 - js.length) k2 s2 [.tup [.str sRr, .str T.w, .tup ((binsN T.w.length).map binP)]] ([] ++ js.map jobV) [] (by omega) [] (by rw [d2]; simp)
    have e4 := read_end L (99998 - js.length) k3 2 [.tup [.str sRr, .str T.w, .tup ((binsN T.w.length).map binP)]] ([] ++ js.map jobV) ([] ++ [.tup [.str nm, .str sRr, .tup (((List.range (lotsN T).length).map jN).map PV.str), optP T.last, .int (T.cuts : Nat)]]) d3
    rw [show 100000 - js.length + js.length = 100000 by omega, show 100000 - js.length = 99999 - js.length + 1 by omega] at e2
    rw [show 99998 - js.length + 1 = 99999 - js.length by omega] at e4
    rw [hL]
    have hl2 := hjs js (ringL sRr T.w (binsN T.w.length)) jok (by omega)
    have hdq := dayQ_ok nm ((List.range (lotsN T).length).map jN) T.last T.cuts hn hJ hlast hcuts (by simp; omega)
    refine ⟨_, _, _, e1.trans (e2.trans (e3.trans e4)), _, _, hl1, hl2, ?_⟩
    have hdl : (dayL nm sRr ((List.range (lotsN T).length).map jN) T.last T.cuts).length ≤ 10 := by
      have := end_len T.last T.cuts
      simp [dayL]
      omega
    have hjf : (js.map jobT).flatten.length ≤ 10 * js.length := by
      have : ∀ js : List JobD, (∀ q ∈ js, JobOk q ∧ q.C.length ≤ 3) → (js.map jobT).flatten.length ≤ 10 * js.length := fun js => by
        induction js with
        | nil => intro _; simp
        | cons q js ih =>
          intro hq
          have h1 := hjl q (hq q (by simp)).1 (hq q (by simp)).2
          have h2 := ih fun p hp => hq p (by simp [hp])
          simp only [List.map_cons, List.flatten_cons, List.length_append, List.length_cons]
          omega
      exact this js jok
    simp only [List.nil_append, linesS, hdq]
    rw [if_pos (by simp only [List.length_append]; omega), ← hL, List.append_assoc]
end K29
namespace K29
open PySem L2 Mini
/-- a line of texts -/
structure OkL (l : List Nat) : Prop where
  len : l.length ≤ 60
  nl : 10 ∉ l
theorem an_nl {c : Nat} (h : isAN c = true) : c ≠ 10 := by
  intro e
  subst e
  revert h
  decide
theorem name_nl {nm : List Nat} (h : nameB nm = true) : 10 ∉ nm := fun z => by
  have := (nameB_is h).2.2.1
  rw [List.all_eq_true] at this
  exact an_nl (this 10 z) rfl
theorem fg_nl (k : Nat) (h : k < 60) : 10 ∉ fg k := fun z => by
  have := fg_AN k h
  rw [List.all_eq_true] at this
  exact an_nl (this 10 z) rfl
theorem okl_bin {q : List Nat × Nat} (h1 : nameB q.1 = true) (h2 : q.2 ≤ 11) : OkL (binL q) := by
  have a := nm_len h1
  have b := fg_len q.2
  have c := name_nl h1
  have d := fg_nl q.2 (by omega)
  exact ⟨by simp [binL, wBin, wAt]; omega, by simp [binL, wBin, wAt, c, d]⟩
theorem okl_carry {q : List Nat × List Nat} (h1 : nameB q.1 = true) (h2 : nameB q.2 = true) : OkL (carL q) := by
  have a := nm_len h1
  have b := nm_len h2
  have c := name_nl h1
  have d := name_nl h2
  exact ⟨by simp [carL, wCarry, wTo]; omega, by simp [carL, wCarry, wTo, c, d]⟩
theorem okl_head {w nm ring : List Nat} (hw : w = sJ ∨ w = sD) (h1 : nameB nm = true) (h2 : nameB ring = true) : OkL (headL w nm ring) := by
  have a := nm_len h1
  have b := nm_len h2
  have c := name_nl h1
  have d := name_nl h2
  rcases hw with rfl | rfl
  · exact ⟨by simp [headL, wOn, sJ]; omega, by simp [headL, wOn, sJ, c, d]⟩
  · exact ⟨by simp [headL, wOn, sD]; omega, by simp [headL, wOn, sD, c, d]⟩
theorem okl_end {last : Option Nat} {cuts : Nat} (hl : ∀ l, last = some l → l ≤ 11) (hc : cuts ≤ 4) : ∀ l ∈ endL last cuts, OkL l := fun l h => by
  have a := fg_len cuts
  have b := fg_nl cuts (by omega)
  have e1 : OkL (wCuts ++ fg cuts) := ⟨by simp [wCuts]; omega, by simp [wCuts, b]⟩
  have e2 : OkL sEnd := ⟨by decide, by decide⟩
  cases last with
  | none =>
    simp only [endL, List.nil_append, List.mem_cons, List.not_mem_nil, or_false] at h
    rcases h with rfl | rfl
    · exact e1
    · exact e2
  | some k =>
    have hk := hl k rfl
    have c := fg_len k
    have d := fg_nl k (by omega)
    simp only [endL, List.cons_append, List.nil_append, List.mem_cons, List.not_mem_nil, or_false] at h
    rcases h with rfl | rfl | rfl
    · exact ⟨by simp [wLast]; omega, by simp [wLast, d]⟩
    · exact e1
    · exact e2
theorem okl_job (q : JobD) (h : JobOk q) : ∀ l ∈ jobT q, OkL l := fun l hl => by
  simp only [jobT, jobL, List.mem_cons, List.mem_append, List.mem_map] at hl
  rcases hl with rfl | ⟨p, hp, rfl⟩ | hl
  · exact okl_head (.inl rfl) h.nm nameB_rr
  · exact okl_carry (h.names p hp).1 (h.names p hp).2
  · exact okl_end h.last h.cuts l hl
theorem okl_texts {T : Task} (h : Drawn T) (nm : List Nat) (hn : nameB nm = true) : (∀ l ∈ textsN T nm, OkL l) ∧ (textsN T nm).length ≤ 100 ∧ textsN T nm ≠ [] := by
  have hw0 := h.w0
  have hw1 := h.w1
  have hB := binsN_ok h.w1
  have hl3 := lots_len h
  have hln := lots_names h
  have hlast : ∀ l, T.last = some l → l ≤ 11 := fun l hl => by have := h.last l hl; omega
  have hcuts : T.cuts ≤ 4 := by have := h.cuts; omega
  have hel := end_len T.last T.cuts
  have hring : ∀ l ∈ ringL sRr T.w (binsN T.w.length), OkL l := fun l hl => by
    simp only [ringL, List.mem_cons, List.mem_append, List.mem_map, List.not_mem_nil, or_false] at hl
    rcases hl with rfl | rfl | ⟨q, hq, rfl⟩ | rfl
    · exact ⟨by decide, by decide⟩
    · refine ⟨by simp [wCells]; omega, fun z => ?_⟩
      rcases List.mem_append.mp z with z | z
      · revert z; decide
      · have := h.abc 10 z
        omega
    · exact okl_bin (hB q hq).1 (hB q hq).2
    · exact ⟨by decide, by decide⟩
  have hrl : (ringL sRr T.w (binsN T.w.length)).length ≤ 20 := by simp [ringL, binsN]; omega
  have hr0 : ringL sRr T.w (binsN T.w.length) ≠ [] := by simp [ringL]
  unfold textsN
  by_cases h1 : (lotsN T).length = 1
  · rw [if_pos h1]
    obtain ⟨lot, hlot⟩ : ∃ lot, lotsN T = [lot] := by
      match lotsN T, h1 with
      | [lot], _ => exact ⟨lot, rfl⟩
    rw [hlot]
    obtain ⟨n1, n2, n3⟩ := hln lot (by rw [hlot]; simp)
    have jok : JobOk ⟨nm, lot, T.last, T.cuts⟩ := ⟨hn, n1, by simp only; omega, n3, hlast, hcuts⟩
    refine ⟨fun l hl => ?_, ?_, fun z => hr0 (List.append_eq_nil_iff.mp z).1⟩
    · rcases List.mem_append.mp hl with hl | hl
      · exact hring l hl
      · exact okl_job _ jok l hl
    · simp [jobL]
      omega
  · rw [if_neg h1]
    have jok : ∀ q ∈ (lotsN T).zipIdx.map lotJ, JobOk q ∧ q.C.length ≤ 3 := fun q hq => by
      obtain ⟨⟨lot, k⟩, hp, rfl⟩ := List.mem_map.mp hq
      obtain ⟨m1, m2, _⟩ := mem_zipIdx hp
      obtain ⟨n1, n2, n3⟩ := hln lot m1
      exact ⟨⟨nameB_j k (by simp only at m2; omega), n1, by simp only [lotJ]; omega, n3, (fun l hl => by cases hl), by simp [lotJ]⟩, n2⟩
    rw [jobs_are]
    refine ⟨fun l hl => ?_, ?_, fun z => hr0 (List.append_eq_nil_iff.mp z).1⟩
    · rcases List.mem_append.mp hl with hl | hl
      · exact hring l hl
      · rcases List.mem_append.mp hl with hl | hl
        · obtain ⟨t, ht, hl⟩ := List.mem_flatten.mp hl
          obtain ⟨q, hq, rfl⟩ := List.mem_map.mp ht
          exact okl_job q (jok q hq).1 l hl
        · simp only [dayL, List.mem_cons, List.mem_append, List.mem_map] at hl
          rcases hl with rfl | ⟨j, ⟨k, hk, rfl⟩, rfl⟩ | hl
          · exact okl_head (.inr rfl) hn nameB_rr
          · have := List.mem_range.mp hk
            have hj := nameB_j k (by omega)
            have a := nm_len hj
            have b := name_nl hj
            exact ⟨by simp [wDo]; omega, by simp [wDo, b]⟩
          · exact okl_end hlast hcuts l hl
    · have hzl : ((lotsN T).zipIdx.map lotJ).length ≤ 3 := by simp; omega
      have hjl : ∀ js : List JobD, (∀ q ∈ js, JobOk q ∧ q.C.length ≤ 3) → (js.map jobT).flatten.length ≤ 10 * js.length := fun js => by
        induction js with
        | nil => intro _; simp
        | cons q js ih =>
          intro hq
          have h1 : (jobT q).length ≤ 10 := by
            have := end_len q.last q.cuts
            have := (hq q (by simp)).2
            simp [jobT, jobL]
            omega
          have h2 := ih fun p hp => hq p (by simp [hp])
          simp only [List.map_cons, List.flatten_cons, List.length_append, List.length_cons]
          omega
      have := hjl _ jok
      simp only [List.length_append, dayL, List.length_cons, List.length_map, List.length_range]
      omega
theorem joinL_len (s : List Nat) (n : Nat) (hs : s.length = 1) : ∀ ls : List (List Nat), (∀ l ∈ ls, l.length ≤ n) → (TL.joinL s ls).length ≤ ls.length * (n + 1)
  | [], _ => by simp [TL.joinL]
  | [l], h => by
    have := h l (by simp)
    simp [TL.joinL]
    omega
  | l :: k :: ls, h => by
    have h1 := h l (by simp)
    have h2 := joinL_len s n hs (k :: ls) fun x hx => h x (by simp only [List.mem_cons] at hx ⊢; exact .inr hx)
    simp only [TL.joinL, List.length_append, hs]
    simp only [List.length_cons] at h2 ⊢
    have : (ls.length + 1 + 1) * (n + 1) = (ls.length + 1) * (n + 1) + (n + 1) := by rw [Nat.add_mul, Nat.one_mul]
    omega
theorem back_run {T : Task} (h : Drawn T) (nm : List Nat) (hn : nameB nm = true) : (TL.joinL [10] (textsN T nm)).length ≤ 10000 ∧ ∃ v, (∀ m, F_read_text [.str (TL.joinL [10] (textsN T nm))] m = some (v, m)) ∧ ∀ m, F_text_lines [v] m = some (linesP (textsN T nm), m) := by
  obtain ⟨o1, o2, o3⟩ := okl_texts h nm hn
  obtain ⟨a, b, c, hr, l1, l2, h1, h2, h3⟩ := texts_back h nm hn
  have hlen := joinL_len [10] 60 rfl (textsN T nm) fun l hl => (o1 l hl).len
  have hl : (TL.joinL [10] (textsN T nm)).length ≤ 10000 := by
    have : (textsN T nm).length * (60 + 1) ≤ 100 * 61 := Nat.mul_le_mul_right _ o2
    omega
  have hs : TL.spl [10] 0 [] (TL.joinL [10] (textsN T nm)) = textsN T nm := TL.spl_join o3 fun p hp => (o1 p hp).nl
  refine ⟨hl, .tup [.tup a, .tup b, .tup c], fun m => ?_, fun m => ?_⟩
  · unfold F_read_text
    simp only [hs, hr]
    rw [if_pos (by omega)]
  · unfold F_text_lines
    simp only [h1, h2, h3]
end K29
namespace K29
open PySem L2 Mini
inductive Item where
  | word (w : List Nat) | name (n : List Nat) | signs (s : List Nat) | count (k : Nat)
def Item.text : Item → List Nat
  | .word w => w
  | .name n => n
  | .signs s => s
  | .count k => fg k
def Item.part : Item → PV
  | .word w => .tup [.str sWord, .str w]
  | .name _ => .tup [.str sName, .non]
  | .signs _ => .tup [.str sSigns, .tup [.str [97, 98, 99], .int 2, .int 12]]
  | .count _ => .tup [.str sCount, .int 50]
def Item.due : Item → List PV
  | .word _ => []
  | .name n => [.str n]
  | .signs s => [.str s]
  | .count k => [.int (k : Nat)]
def Item.ok : Item → Prop
  | .word w => 63 ∉ w
  | .name n => nameB n = true
  | .signs s => 2 ≤ s.length ∧ s.length ≤ 12 ∧ ∀ c ∈ s, c = 97 ∨ c = 98 ∨ c = 99
  | .count k => k < 40
def spP : PV := .tup [.str sWord, .str [32]]
def endP : PV := .tup [.str sEnd, .non]
def partsOf : List Item → List PV
  | [] => []
  | i :: is => i.part :: spP :: partsOf is
def lineI : List Item → List Nat
  | [] => []
  | i :: is => i.text ++ (32 :: lineI is)
def duesOf : List Item → List PV
  | [] => []
  | i :: is => i.due ++ duesOf is
def Seps (r : List Nat) : Prop := ∀ c, r.head? = some c → c = 32 ∨ c = 63
theorem Seps.ends {r : List Nat} (h : Seps r) : Ends r := fun c hc => by
  rcases h c hc with rfl | rfl <;> decide
theorem seps_sp (r : List Nat) : Seps (32 :: r) := fun c h => by cases h; exact .inl rfl
theorem seps_q (r : List Nat) : Seps (63 :: r) := fun c h => by cases h; exact .inr rfl
theorem step_at (i : Item) (hi : i.ok) (p r : List Nat) (hr : Seps r) (found : List PV) : stepS (p ++ (i.text ++ r)) i.part p.length true found = some (p.length + i.text.length, true, found ++ i.due) := by
  cases i with
  | word w => simp [stepS, Item.part, Item.text, Item.due, wordS_at]
  | name n =>
    have hn : nameB n = true := hi
    have h1 : ¬ sName = sWord := by decide
    simp [stepS, Item.part, Item.text, Item.due, h1, nameS_at p n r hn hr.ends]
  | signs s =>
    obtain ⟨h2, h12, habc⟩ : 2 ≤ s.length ∧ s.length ≤ 12 ∧ ∀ c ∈ s, c = 97 ∨ c = 98 ∨ c = 99 := hi
    have h1 : ¬ sSigns = sWord := by decide
    have h3 : ¬ sSigns = sName := by decide
    have hs := signsN_at p s r [97, 98, 99] 12 (fun c hc => by simpa using habc c hc) h12 (fun c hc => by rcases hr c hc with rfl | rfl <;> decide)
    have h5 : (2 : Int) ≤ (s.length : Nat) := by omega
    simp [stepS, Item.part, Item.text, Item.due, h1, h3, hs, h5]
  | count k =>
    have hk : k < 40 := hi
    have h1 : ¬ sCount = sWord := by decide
    have h3 : ¬ sCount = sName := by decide
    have h4 : ¬ sCount = sSigns := by decide
    simp [stepS, Item.part, Item.text, Item.due, h1, h3, h4, countS_at p r k 50 (by omega) (by omega) hr.ends]
theorem word_cut : ∀ (w p r : List Nat) (j : Nat), 63 ∉ w → j < w.length → wordS (p ++ (w.take j ++ 63 :: r)) w p.length true = (p.length + j, false)
  | c :: w, p, r, 0, hw, hj => by
    have h : (p ++ ([] ++ 63 :: r))[p.length]? = some 63 := by
      rw [List.getElem?_append_right (Nat.le_refl _)]; simp
    rw [List.take_zero, wordS_miss _ _ _ _ _ (by rw [h]; intro z; cases z; exact hw (by simp))]
    rfl
  | c :: w, p, r, j + 1, hw, hj => by
    have h : (p ++ ((c :: w).take (j + 1) ++ 63 :: r))[p.length]? = some c := by
      rw [List.getElem?_append_right (Nat.le_refl _)]; simp
    unfold wordS
    rw [if_pos ⟨rfl, h⟩]
    have := word_cut w (p ++ [c]) r j (fun z => hw (by simp [z])) (by simpa using hj)
    rw [List.length_append, List.append_assoc] at this
    simp only [List.length_cons, List.length_nil, List.cons_append, List.nil_append, List.take_succ_cons] at this ⊢
    rw [this]
    simp only [Prod.mk.injEq, and_true]
    omega
  | [], p, r, j, hw, hj => by simp at hj
theorem fg_cut : ∀ k : Nat, k < 40 → ∀ j : Nat, j < (fg k).length → ∀ i : Nat, i < ((fg k).take j).length → begB (((fg k).take j).take (i + 1)) 50 = true := by decide +kernel
theorem of_q {x : Option (Nat × Bool × List PV)} {q : Nat × Bool × List PV} {n : Nat} (h : x = some q) (e : q.1 = n) : ∃ g f, x = some (n, g, f) := ⟨q.2.1, q.2.2, by rw [h, ← e]⟩
theorem step_cut (i : Item) (hi : i.ok) (p r : List Nat) (j : Nat) (hj : j < i.text.length) (found : List PV) : ∃ g' found', stepS (p ++ (i.text.take j ++ 63 :: r)) i.part p.length true found = some (p.length + j, g', found') := by
  cases i with
  | word w =>
    have := word_cut w p r j hi hj
    refine of_q (by simp only [stepS, Item.part, Item.text, if_true]; rfl) ?_
    simp only [this]
  | name n =>
    have hn : nameB n = true := hi
    obtain ⟨a1, a2, a3, a4, c, a5, a6⟩ := nameB_is hn
    have h1 : ¬ sName = sWord := by decide
    have hrun := runOf_at p (n.take j) (63 :: r) (by
      rw [List.all_eq_true] at a3 ⊢
      exact fun x hx => a3 x (List.mem_of_mem_take hx)) (seps_q r).ends
    have hj' : j < n.length := hj
    have e : (nameS (p ++ (n.take j ++ 63 :: r)) p.length true).2.1 = p.length + j := by
      unfold nameS
      simp only [hrun]
      cases j with
      | zero => simp
      | succ j =>
        obtain ⟨d, n', rfl⟩ : ∃ d n', n = d :: n' := ⟨_, _, (List.cons_head_tail a1).symm⟩
        have hd : d = c := by simpa using a5
        subst hd
        have : ¬ (true = false ∨ (d :: n').take (j + 1) = [] ∨ ∃ c, ((d :: n').take (j + 1)).head? = some c ∧ isD c = true) := by
          rintro (h | h | ⟨x, h, h'⟩)
          · cases h
          · simp at h
          · simp at h
            subst h
            rw [a6] at h'
            cases h'
        rw [if_neg this]
        have : ((d :: n').take (j + 1)).length = j + 1 := by rw [List.length_take]; omega
        simp only [this]
        omega
    exact of_q (by simp only [stepS, Item.part, Item.text, h1, if_false, if_true]; rfl) e
  | signs s =>
    obtain ⟨h2, h12, habc⟩ : 2 ≤ s.length ∧ s.length ≤ 12 ∧ ∀ c ∈ s, c = 97 ∨ c = 98 ∨ c = 99 := hi
    have h1 : ¬ sSigns = sWord := by decide
    have h3 : ¬ sSigns = sName := by decide
    have hj' : j < s.length := hj
    have hl : (s.take j).length = j := by rw [List.length_take]; omega
    have hs := signsN_at p (s.take j) (63 :: r) [97, 98, 99] 12 (fun c hc => by simpa using habc c (List.mem_of_mem_take hc)) (by omega) (fun c hc => by rcases seps_q r c hc with rfl | rfl <;> decide)
    rw [hl] at hs
    refine of_q (by simp only [stepS, Item.part, Item.text, h1, h3, if_false, if_true]; rw [if_pos (by decide)]) ?_
    simp only [show (12 : Int).toNat = 12 from rfl, hs]
  | count k =>
    have hk : k < 40 := hi
    have h1 : ¬ sCount = sWord := by decide
    have h3 : ¬ sCount = sName := by decide
    have h4 : ¬ sCount = sSigns := by decide
    have hj' : j < (fg k).length := hj
    have hl : ((fg k).take j).length = j := by rw [List.length_take]; omega
    have hall := fg_AN k (by omega)
    have hrun := runOf_at p ((fg k).take j) (63 :: r) (by
      rw [List.all_eq_true] at hall ⊢
      exact fun x hx => hall x (List.mem_of_mem_take hx)) (seps_q r).ends
    have hc := cntS_all ((fg k).take j) 50 (fg_cut k hk j hj') j 0 (by omega)
    have e : (countS (p ++ ((fg k).take j ++ 63 :: r)) p.length true 50).2.1 = p.length + j := by
      unfold countS
      simp only [hrun, hl, hc, if_true]
    exact of_q (by simp only [stepS, Item.part, Item.text, h1, h3, h4, if_false, if_true]; rfl) e
theorem step_some (i : Item) (t : List Nat) (a : Nat) (g : Bool) (found : List PV) : ∃ r, stepS t i.part a g found = some r := by
  have h1 : ¬ sName = sWord := by decide
  have h2 : ¬ sSigns = sWord := by decide
  have h3 : ¬ sSigns = sName := by decide
  have h4 : ¬ sCount = sWord := by decide
  have h5 : ¬ sCount = sName := by decide
  have h6 : ¬ sCount = sSigns := by decide
  apply Option.isSome_iff_exists.mp
  cases i with
  | word w => simp [stepS, Item.part]
  | name n => simp [stepS, Item.part, h1]
  | signs s => simp [stepS, Item.part, h2, h3]
  | count k => simp [stepS, Item.part, h4, h5, h6]
theorem step_sp (t : List Nat) (a : Nat) (g : Bool) (found : List PV) : stepS t spP a g found = some ((wordS t [32] a g).1, (wordS t [32] a g).2, found) := by
  simp only [stepS, spP, if_true]
theorem step_end (t : List Nat) (a : Nat) (g : Bool) (found : List PV) : stepS t endP a g found = some (a, g && decide (a = t.length), found) := by
  have h1 : ¬ sEnd = sWord := by decide
  have h2 : ¬ sEnd = sName := by decide
  have h3 : ¬ sEnd = sSigns := by decide
  have h4 : ¬ sEnd = sCount := by decide
  simp only [stepS, endP, h1, h2, h3, h4, if_false]
theorem scan_some : ∀ (is : List Item) (t : List Nat) (a : Nat) (g : Bool) (found : List PV), ∃ r, scanS t (partsOf is ++ [endP]) a g found = some r
  | [], t, a, g, found => by
    simp only [partsOf, List.nil_append, scanS, step_end]
    exact ⟨_, rfl⟩
  | i :: is, t, a, g, found => by
    obtain ⟨⟨a1, g1, f1⟩, h1⟩ := step_some i t a g found
    simp only [partsOf, List.cons_append, scanS, h1, step_sp]
    exact scan_some is t _ _ _
theorem scan_full : ∀ (is : List Item) (p r : List Nat) (found : List PV), (∀ i ∈ is, i.ok) → scanS (p ++ (lineI is ++ r)) (partsOf is ++ [endP]) p.length true found = some (p.length + (lineI is).length, decide (r = []), found ++ duesOf is)
  | [], p, r, found, h => by
    simp only [partsOf, lineI, duesOf, List.nil_append, scanS, step_end, List.append_nil, List.length_nil, Nat.add_zero, Bool.true_and, Option.some.injEq, Prod.mk.injEq, true_and, and_true]
    rw [List.length_append]
    cases r with
    | nil => simp
    | cons c r => simp
  | i :: is, p, r, found, h => by
    have h1 := step_at i (h i (by simp)) p (32 :: lineI is ++ r) (seps_sp _) found
    have e : p ++ (lineI (i :: is) ++ r) = p ++ (i.text ++ (32 :: lineI is ++ r)) := by simp [lineI]
    rw [e]
    simp only [partsOf, List.cons_append, scanS]
    rw [← List.cons_append, h1]
    simp only [step_sp]
    have h2 := wordS_at [32] (p ++ i.text) (lineI is ++ r)
    rw [List.append_assoc, List.length_append] at h2
    rw [show i.text ++ (32 :: lineI is ++ r) = i.text ++ ([32] ++ (lineI is ++ r)) from rfl, h2]
    have ih := scan_full is (p ++ (i.text ++ [32])) r (found ++ i.due) (fun j hj => h j (by simp [hj]))
    rw [List.append_assoc, List.append_assoc, List.length_append, List.length_append] at ih
    simp only [List.length_cons, List.length_nil] at ih ⊢
    rw [← Nat.add_assoc] at ih
    rw [ih]
    simp only [lineI, duesOf, List.length_append, List.length_cons, List.append_assoc, Option.some.injEq, Prod.mk.injEq, and_true]
    omega
theorem scan_bent : ∀ (is : List Item) (p : List Nat) (found : List PV) (j : Nat), (∀ i ∈ is, i.ok) → j < (lineI is).length → ∃ found', scanS (p ++ ((lineI is).take j ++ 63 :: (lineI is).drop j)) (partsOf is ++ [endP]) p.length true found = some (p.length + j, false, found')
  | [], p, found, j, h, hj => by simp [lineI] at hj
  | i :: is, p, found, j, h, hj => by
    have fin : ∀ (t : List Nat) (g : Bool) (f1 : List PV), t[p.length + j]? = some 63 → ∃ found', (match stepS t spP (p.length + j) g f1 with
        | some (a', g', found') => scanS t (partsOf is ++ [endP]) a' g' found'
        | none => none) = some (p.length + j, false, found') := fun t g f1 ht => by
      rw [step_sp, wordS_miss t [] 32 _ g (by rw [ht]; intro z; cases z)]
      obtain ⟨⟨a2, g2, f2⟩, h2⟩ := scan_some is t (p.length + j) false f1
      obtain ⟨h3, h4⟩ := scan_no h2
      simp only [] at h3 h4
      subst h3 h4
      exact ⟨f2, h2⟩
    simp only [partsOf, List.cons_append, scanS]
    by_cases h1 : j < i.text.length
    · have e : (lineI (i :: is)).take j = i.text.take j := by
        simp only [lineI]
        rw [List.take_append_of_le_length (by omega)]
      rw [e]
      obtain ⟨g', f1, hs⟩ := step_cut i (h i (by simp)) p ((lineI (i :: is)).drop j) j h1 found
      rw [hs]
      refine fin _ g' f1 ?_
      rw [← List.append_assoc, List.getElem?_append_right (by simp; omega)]
      have : p.length + j - (p ++ i.text.take j).length = 0 := by simp; omega
      rw [this]
      rfl
    · by_cases h2 : j = i.text.length
      · have e : (lineI (i :: is)).take j = i.text := by
          simp only [lineI]
          rw [List.take_left' h2.symm]
        rw [e, step_at i (h i (by simp)) p _ (seps_q _) found, ← h2]
        refine fin _ true _ ?_
        rw [← List.append_assoc, List.getElem?_append_right (by simp; omega)]
        have : p.length + j - (p ++ i.text).length = 0 := by simp; omega
        rw [this]
        rfl
      · obtain ⟨j', rfl⟩ : ∃ j', j = i.text.length + 1 + j' := ⟨j - i.text.length - 1, by omega⟩
        have e1 : (lineI (i :: is)).take (i.text.length + 1 + j') = i.text ++ (32 :: (lineI is).take j') := by
          simp only [lineI]
          rw [List.take_append, List.take_of_length_le (by omega)]
          congr 1
          rw [show i.text.length + 1 + j' - i.text.length = j' + 1 by omega, List.take_succ_cons]
        have e2 : (lineI (i :: is)).drop (i.text.length + 1 + j') = (lineI is).drop j' := by
          simp only [lineI]
          rw [List.drop_append, List.drop_eq_nil_of_le (by omega), List.nil_append]
          rw [show i.text.length + 1 + j' - i.text.length = j' + 1 by omega, List.drop_succ_cons]
        rw [e1, e2]
        have hj' : j' < (lineI is).length := by
          simp only [lineI, List.length_append, List.length_cons] at hj
          omega
        obtain ⟨f', ih⟩ := scan_bent is (p ++ (i.text ++ [32])) (found ++ i.due) j' (fun q hq => h q (by simp [hq])) hj'
        refine ⟨f', ?_⟩
        have e3 : p ++ (i.text ++ 32 :: (lineI is).take j' ++ 63 :: (lineI is).drop j') = p ++ (i.text ++ (32 :: ((lineI is).take j' ++ 63 :: (lineI is).drop j'))) := by simp
        rw [e3, step_at i (h i (by simp)) p _ (seps_sp _) found]
        have h3 := wordS_at [32] (p ++ i.text) ((lineI is).take j' ++ 63 :: (lineI is).drop j')
        rw [List.append_assoc, List.length_append] at h3
        simp only [step_sp]
        rw [show i.text ++ (32 :: ((lineI is).take j' ++ 63 :: (lineI is).drop j')) = i.text ++ ([32] ++ ((lineI is).take j' ++ 63 :: (lineI is).drop j')) from rfl, h3]
        rw [List.append_assoc, List.append_assoc, List.length_append, List.length_append] at ih
        simp only [List.length_cons, List.length_nil] at ih ⊢
        rw [← Nat.add_assoc] at ih
        rw [ih]
        simp only [Option.some.injEq, Prod.mk.injEq, and_true]
        omega
end K29
namespace K29
open PySem L2 Mini
theorem spl_ne (s : Nat) : ∀ (l acc : List Nat), TL.spl [s] 0 acc l ≠ []
  | [], acc => by simp [TL.spl]
  | c :: l, acc => by
    simp only [TL.spl]
    split
    · simp
    · exact spl_ne s l _
theorem join_cons (s : List Nat) (p : List Nat) {q : List (List Nat)} (h : q ≠ []) : TL.joinL s (p :: q) = p ++ (s ++ TL.joinL s q) := by
  cases q with
  | nil => exact absurd rfl h
  | cons a b => rfl
theorem join_spl1 (s : Nat) : ∀ (l acc : List Nat), TL.joinL [s] (TL.spl [s] 0 acc l) = acc ++ l
  | [], acc => by simp [TL.spl, TL.joinL]
  | c :: l, acc => by
    simp only [TL.spl]
    have hp : TL.pre [s] (c :: l) = decide (s = c) := by
      simp only [TL.pre, List.length_cons, List.length_nil, List.take_succ_cons, List.take_zero]
      by_cases h : s = c
      · subst h; simp
      · have : ¬ c = s := fun z => h z.symm
        simp [h, this]
    rw [hp]
    by_cases h : s = c
    · subst h
      simp only [decide_true, if_true]
      rw [show ([s] : List Nat).length - 1 = 0 from rfl, join_cons _ _ (spl_ne s l []), join_spl1 s l []]
      simp
    · simp only [h, decide_false, Bool.false_eq_true, if_false]
      rw [join_spl1 s l (acc ++ [c])]
      simp
theorem join_flat (s : List Nat) (p : List Nat) : ∀ q : List (List Nat), TL.joinL s (p :: q) = p ++ (q.map (s ++ ·)).flatten
  | [] => by simp [TL.joinL]
  | a :: q => by
    rw [join_cons s p (by simp), join_flat s a q]
    simp
def wP (w : List Nat) : PV := .tup [.str sWord, .str w]
theorem step_w (w p r : List Nat) (found : List PV) : stepS (p ++ (w ++ r)) (wP w) p.length true found = some (p.length + w.length, true, found) := by
  simp [stepS, wP, wordS_at]
theorem scan_ws : ∀ (ws : List (List Nat)) (p : List Nat) (found : List PV), scanS (p ++ ws.flatten) (ws.map wP ++ [endP]) p.length true found = some ((p ++ ws.flatten).length, true, found)
  | [], p, found => by
    simp only [List.map_nil, List.nil_append, scanS, step_end, List.flatten_nil, List.append_nil]
    simp
  | w :: ws, p, found => by
    simp only [List.map_cons, List.cons_append, scanS, List.flatten_cons, step_w]
    have ih := scan_ws ws (p ++ w) found
    rw [List.append_assoc, List.length_append (as := p) (bs := w)] at ih
    exact ih
/-- a line word by word -/
theorem scan_line (l : List Nat) : ∃ w0 ws, TL.spl [32] 0 [] l = w0 :: ws ∧ (w0 :: ws).length ≤ l.length + 1 ∧ scanS l (wP w0 :: ws.map (fun w => wP (32 :: w)) ++ [endP]) 0 true [] = some (l.length, true, []) := by
  obtain ⟨w0, ws, e⟩ := List.exists_cons_of_ne_nil (spl_ne 32 l [])
  have h := join_spl1 32 l []
  rw [e, join_flat, List.nil_append] at h
  have hl := spl_length [32] l 0 []
  rw [e] at hl
  refine ⟨w0, ws, e, hl, ?_⟩
  have := scan_ws (w0 :: ws.map ([32] ++ ·)) [] []
  simp only [List.nil_append, List.flatten_cons, List.length_nil] at this
  rw [h, List.map_cons, List.map_map] at this
  exact this
end K29
namespace K29
open PySem L2 Mini
/-- law: slots script 0 bag 1 lap 2 task 3 lines 4 line 5 k 6 at 7 bent 8 scan 9 words 10 parts 11 word 12 name 13 signs 14 number 15 due 16 kind 17 found 18 -/
noncomputable def m_law : Fs :=
    (sSeq (sAsg (.nm 1) (fCl 1 F_law_bag (aCons (fVar 0) aNil)))
    (sSeq (sFor (iRng1 (aCons (fC (.int 8)) aNil)) (.nm 2) (sSeq (sPar [13, 14, 15] (aCons (fCl 2 F_law_some (aCons (fVar 1) (aCons (fLst (lDisp (aCons (fC (.str [120])) (aCons (fC (.str [97, 98, 51])) (aCons (fC (.str [114, 114])) (aCons (fC (.str [113, 49, 50, 51, 52, 53, 54, 55])) aNil)))))) aNil))) (aCons (fCl 3 F_law_word (aCons (fVar 1) (aCons (fC (.int 2)) (aCons (fC (.int 5)) aNil)))) (aCons (fCl 2 F_law_take (aCons (fVar 1) (aCons (fC (.int 40)) aNil))) aNil))))
    (sSeq (sPar [11, 5, 16] (aCons (fAlloc (lDisp aNil)) (aCons (fC (.str [])) (aCons (fAlloc (lDisp aNil)) aNil))))
    (sSeq (sFor (iRng1 (aCons (f2 vAdd (fC (.int 1)) (fCl 2 F_law_take (aCons (fVar 1) (aCons (fC (.int 4)) aNil)))) aNil)) (.nm 6) (sSeq (sAsg (.nm 17) (fCl 2 F_law_some (aCons (fVar 1) (aCons (fLst (lDisp (aCons (fC (.str [119, 111, 114, 100])) (aCons (fC (.str [110, 97, 109, 101])) (aCons (fC (.str [115, 105, 103, 110, 115])) (aCons (fC (.str [99, 111, 117, 110, 116])) aNil)))))) aNil))))
    (sSeq (sIf (fTst (f2 vEq (fVar 17) (fC (.str [119, 111, 114, 100])))) (sSeq (sAsg (.nm 12) (fCl 2 F_law_some (aCons (fVar 1) (aCons (fLst (lDisp (aCons (fC (.str [98, 105, 110, 32])) (aCons (fC (.str [32, 97, 116, 32])) (aCons (fC (.str [99, 101, 108, 108, 115, 32])) (aCons (fC (.str [111, 110])) aNil)))))) aNil))))
    (sSeq (sDrop (fBm "list" vAppend (fVar 11) (aCons (fTup (aCons (fVar 17) (aCons (fVar 12) aNil))) aNil)))
    (sAsg (.nm 5) (f2 vAdd (fVar 5) (fVar 12))))) (sSeq (sDrop (fBm "list" vAppend (fVar 11) (aCons (fTup (aCons (fVar 17) (aCons (f2 vDget (fDisp [((fC (.str [110, 97, 109, 101])), (fC .non)), ((fC (.str [115, 105, 103, 110, 115])), (fTup (aCons (fC (.str [97, 98, 99])) (aCons (fC (.int 2)) (aCons (fC (.int 12)) aNil))))), ((fC (.str [99, 111, 117, 110, 116])), (fC (.int 50)))]) (fVar 17)) aNil))) aNil)))
    (sSeq (sDrop (fBm "list" vAppend (fVar 16) (aCons (f2 vDget (fDisp [((fC (.str [110, 97, 109, 101])), (fVar 13)), ((fC (.str [115, 105, 103, 110, 115])), (fVar 14)), ((fC (.str [99, 111, 117, 110, 116])), (fVar 15))]) (fVar 17)) aNil)))
    (sAsg (.nm 5) (f2 vAdd (fVar 5) (f2 vDget (fDisp [((fC (.str [110, 97, 109, 101])), (fVar 13)), ((fC (.str [115, 105, 103, 110, 115])), (fVar 14)), ((fC (.str [99, 111, 117, 110, 116])), (fBlt vStr (aCons (fVar 15) aNil)))]) (fVar 17)))))))
    (sSeq (sDrop (fBm "list" vAppend (fVar 11) (aCons (fTup (aCons (fC (.str [119, 111, 114, 100])) (aCons (fC (.str [32])) aNil))) aNil)))
    (sAsg (.nm 5) (f2 vAdd (fVar 5) (fC (.str [32]))))))))
    (sSeq (sDrop (fBm "list" vAppend (fVar 11) (aCons (fTup (aCons (fC (.str [101, 110, 100])) (aCons (fC .non) aNil))) aNil)))
    (sSeq (sAsg (.tp [(.nm 9), (.nm 18)]) (fCl 2 F_law_scan (aCons (fVar 5) (aCons (fVar 11) aNil))))
    (sSeq (sIf (fTst (f2 vNe (fTup (aCons (f1 (vFl 1 "text") (fVar 9)) (aCons (f1 (vFl 1 "at") (fVar 9)) (aCons (f1 (vFl 1 "good") (fVar 9)) (aCons (fVar 18) aNil))))) (fTup (aCons (fVar 5) (aCons (fBlt vLen (aCons (fVar 5) aNil)) (aCons (fC (.bl true)) (aCons (fVar 16) aNil))))))) (sRet (fC (.bl false))) sNil)
    (sSeq (sAsg (.nm 7) (fCl 2 F_law_take (aCons (fVar 1) (aCons (fBlt vLen (aCons (fVar 5) aNil)) aNil))))
    (sSeq (sAsg (.nm 8) (f2 vAdd (f2 vAdd (fSl (fVar 5) oNone (oSome (fVar 7))) (fC (.str [63]))) (fSl (fVar 5) (oSome (fVar 7)) oNone)))
    (sSeq (sAsg (.tp [(.nm 9), (.nm 18)]) (fCl 2 F_law_scan (aCons (fVar 8) (aCons (fVar 11) aNil))))
    (sSeq (sIf (fOrT (fTst (f1 (vFl 1 "good") (fVar 9))) (fOrT (fTst (f2 vNe (f1 (vFl 1 "at") (fVar 9)) (fVar 7))) (fTst (f2 vNe (f1 (vFl 1 "text") (fVar 9)) (fVar 8))))) (sRet (fC (.bl false))) sNil)
    (sSeq (sAsg (.tp [(.nm 9), (.nm 18)]) (fCl 2 F_law_scan (aCons (f2 vAdd (fVar 5) (fC (.str [120]))) (aCons (fVar 11) aNil))))
    (sSeq (sIf (fOrT (fTst (f1 (vFl 1 "good") (fVar 9))) (fTst (f2 vNe (f1 (vFl 1 "at") (fVar 9)) (fBlt vLen (aCons (fVar 5) aNil))))) (sRet (fC (.bl false))) sNil)
    (sSeq (sAsg (.nm 9) (fMk 1 2 F_Scan_init (aCons (f2 vAdd (fVar 13) (fC (.str [63]))) aNil)))
    (sIf (fOrT (fTst (f2 vNe (fMt 1 "take_name" 1 F_Scan_take_name (fVar 9) aNil) (fVar 13))) (fOrT (fNotT (fTst (f1 (vFl 1 "good") (fVar 9)))) (fOrT (fTst (f2 vNe (f1 (vFl 1 "at") (fVar 9)) (fBlt vLen (aCons (fVar 13) aNil)))) (fNotT (fTst (fCl 1 F_is_name (aCons (fVar 13) aNil))))))) (sRet (fC (.bl false))) sNil)))))))))))))))
    (sSeq (sAsg (.nm 3) (fCl 4 F_law_task (aCons (fVar 1) (aCons (fCl 3 F_law_word (aCons (fVar 1) (aCons (fC (.int 3)) (aCons (fC (.int 6)) aNil)))) (aCons (fC (.int 3)) (aCons (fC (.int 3)) aNil))))))
    (sSeq (sAsg (.nm 4) (fCl 2 F_law_texts (aCons (fVar 3) (aCons (fC (.str [103, 111])) aNil))))
    (sSeq (sIf (fTst (f2 vNe (fBlt vList (aCons (fCl 1 F_text_lines (aCons (fCl 1 F_read_text (aCons (fBm "str" vJoin (fC (.str [10])) (aCons (fVar 4) aNil)) aNil)) aNil)) aNil)) (fVar 4))) (sRet (fC (.bl false))) sNil)
    (sSeq (sFor (iAny (fVar 4)) (.nm 5) (sSeq (sAsg (.nm 10) (fBm "str" vSplit (fVar 5) (aCons (fC (.str [32])) aNil)))
    (sSeq (sAsg (.nm 11) (fAlloc (lDisp (aCons (fTup (aCons (fC (.str [119, 111, 114, 100])) (aCons (f2 vIx (fVar 10) (fC (.int 0))) aNil))) aNil))))
    (sSeq (sFor (iAny (fSl (fVar 10) (oSome (fC (.int 1))) oNone)) (.nm 12) (sDrop (fBm "list" vAppend (fVar 11) (aCons (fTup (aCons (fC (.str [119, 111, 114, 100])) (aCons (f2 vAdd (fC (.str [32])) (fVar 12)) aNil))) aNil))))
    (sSeq (sAsg (.tp [(.nm 9), (.nm 18)]) (fCl 2 F_law_scan (aCons (fVar 5) (aCons (f2 vAdd (fVar 11) (fLst (lDisp (aCons (fTup (aCons (fC (.str [101, 110, 100])) (aCons (fC .non) aNil))) aNil)))) aNil))))
    (sIf (fOrT (fNotT (fTst (f1 (vFl 1 "good") (fVar 9)))) (fOrT (fTst (f2 vNe (f1 (vFl 1 "at") (fVar 9)) (fBlt vLen (aCons (fVar 5) aNil)))) (fTst (f2 vNe (fVar 18) (fLst (lDisp aNil)))))) (sRet (fC (.bl false))) sNil))))))
    (sRet (fC (.bl true)))))))))
end K29
namespace K29
open PySem L2 Mini
theorem bg_at {f : BF} (m z : Sto) {A A' : Bag} (hc : A.cs.length ≤ 1000) {ys : List PV} {v : PV} (hf : f A ys = some (v, A')) : bgF f (.ref m.length :: ys) (m ++ bagO A :: z) = some (v, m ++ bagO A' :: z) := by
  have hg : (m ++ bagO A :: z)[m.length]? = some (bagO A) := by rw [app_get0]; rfl
  unfold bgF
  simp only [bagOf_mk hg hc, hf, app_set0, List.set_cons_zero]
theorem tk_at (m z : Sto) (A : Bag) (hc : A.cs.length ≤ 1000) (n : Nat) (h0 : 0 < n) (h1 : n < 1073741824) : F_law_take [.ref m.length, .int (n : Nat)] (m ++ bagO A :: z) = some (.int (tkN A n : Nat), m ++ bagO (tkB A n) :: z) := by
  refine bg_at m z hc ?_
  have : (0 : Int) < n ∧ (n : Int) < 1073741824 := by omega
  simp only [this, and_self, if_true, Int.toNat_natCast]
theorem some_at (m z : Sto) (A : Bag) (hc : A.cs.length ≤ 1000) (zs : List (List Nat)) (h0 : zs ≠ []) (h1 : zs.length ≤ 1000) : F_law_some [.ref m.length, .lst (zs.map PV.str)] (m ++ bagO A :: z) = some (.str (zs.getD (tkN A zs.length) []), m ++ bagO (tkB A zs.length) :: z) :=
  bg_at m z hc (by simp only [strsOf_map, h0, h1, ne_eq, not_false_eq_true, and_self, if_true])
theorem word_at_ (m z : Sto) (A : Bag) (hc : A.cs.length ≤ 1000) (least most : Nat) (h0 : 0 < least) (h1 : least ≤ most) (h2 : most ≤ 100) : F_law_word [.ref m.length, .int (least : Nat), .int (most : Nat)] (m ++ bagO A :: z) = some (.str (wordN A least most).1, m ++ bagO (wordN A least most).2 :: z) := by
  refine bg_at m z hc ?_
  have : (0 : Int) < least ∧ (least : Int) ≤ most ∧ (most : Int) ≤ 100 := by omega
  simp only [this, and_self, if_true, Int.toNat_natCast]
theorem word_cs (A : Bag) (least most : Nat) : (wordN A least most).2.cs = A.cs := by
  unfold wordN
  simp only
  split
  · split <;> simp [signs_cs]
  · simp [signs_cs]
theorem word_len (A : Bag) (least most : Nat) (h : 0 < least) (hm : least ≤ most) : least ≤ (wordN A least most).1.length ∧ (wordN A least most).1.length ≤ most ∧ ∀ c ∈ (wordN A least most).1, c = 97 ∨ c = 98 ∨ c = 99 := by
  have ht := tkN_lt A (n := most - least + 1) (by omega)
  have hl := sign_len (least + tkN A (most - least + 1)) (tkB A (most - least + 1))
  have ha := sign_abc (least + tkN A (most - least + 1)) (tkB A (most - least + 1))
  unfold wordN
  simp only
  generalize signsB (least + tkN A (most - least + 1)) (tkB A (most - least + 1)) = q at *
  split
  · split
    · refine ⟨by simp; omega, by simp; omega, fun c hc => ?_⟩
      rcases List.mem_cons.mp hc with rfl | hc
      · exact .inr (.inr rfl)
      · have := List.mem_of_mem_drop hc
        rw [List.mem_replicate] at this
        exact .inl this.2
    · refine ⟨by simp; omega, by simp; omega, fun c hc => ?_⟩
      rcases List.mem_append.mp hc with hc | hc
      · exact ha c ((List.dropLast_sublist _).subset hc)
      · rw [List.mem_singleton] at hc
        subst hc
        split
        · exact .inr (.inl rfl)
        · exact .inr (.inr rfl)
  · exact ⟨by simp only [hl]; omega, by simp only [hl]; omega, ha⟩
/-! ### one part drawn -/
def four : List (List Nat) := [sWord, sName, sSigns, sCount]
def words4 : List (List Nat) := [[98, 105, 110, 32], [32, 97, 116, 32], [99, 101, 108, 108, 115, 32], [111, 110]]
def itemB (nm sg : List Nat) (k : Nat) (A : Bag) : Item × Bag :=
  let B := tkB A 4
  if tkN A 4 = 0 then (.word (words4.getD (tkN B 4) []), tkB B 4) else if tkN A 4 = 1 then (.name nm, B) else if tkN A 4 = 2 then (.signs sg, B) else (.count k, B)
theorem item_cs (nm sg : List Nat) (k : Nat) (A : Bag) : (itemB nm sg k A).2.cs = A.cs := by
  unfold itemB
  simp only
  split
  · simp
  · split
    · simp
    · split <;> simp
theorem item_ok (nm sg : List Nat) (k : Nat) (A : Bag) (hn : nameB nm = true) (hs : 2 ≤ sg.length ∧ sg.length ≤ 12 ∧ ∀ c ∈ sg, c = 97 ∨ c = 98 ∨ c = 99) (hk : k < 40) : (itemB nm sg k A).1.ok := by
  unfold itemB
  simp only
  split
  · have : ∀ j < 4, 63 ∉ words4.getD j [] := by decide
    exact this _ (tkN_lt _ (by decide))
  · split
    · exact hn
    · split
      · exact hs
      · exact hk
end K29
namespace K29
open PySem L2 Mini
/-- the store in a lap: the bag, what lies about, parts, due -/
abbrev SB (m : Sto) (A : Bag) (z : Sto) (P D : List PV) : Sto := m ++ bagO A :: (z ++ [.lst P, .lst D])
theorem SB_is (m : Sto) (A : Bag) (z : Sto) (P D : List PV) : SB m A z P D = (m ++ bagO A :: z) ++ [.lst P, .lst D] := by simp
theorem qlen (m : Sto) (A : Bag) (z : Sto) : (m ++ bagO A :: z).length = m.length + 1 + z.length := by simp; omega
theorem appP (m : Sto) (A : Bag) (z : Sto) (P D : List PV) (v : PV) (hl : P.length < sizeLine) : vAppend (.ref (m.length + 1 + z.length)) [v] (SB m A z P D) = some (.non, SB m A z (P ++ [v]) D) := by
  rw [SB_is, SB_is]
  exact app_z (m ++ bagO A :: z) [.lst P, .lst D] 0 (by rw [qlen]; rfl) P v rfl hl
theorem appD (m : Sto) (A : Bag) (z : Sto) (P D : List PV) (v : PV) (hl : D.length < sizeLine) : vAppend (.ref (m.length + 1 + z.length + 1)) [v] (SB m A z P D) = some (.non, SB m A z P (D ++ [v])) := by
  rw [SB_is, SB_is]
  exact app_z (m ++ bagO A :: z) [.lst P, .lst D] 1 (by rw [qlen]) D v rfl hl
theorem chkP (m : Sto) (A : Bag) (z : Sto) (P D : List PV) : chkT "list" (.ref (m.length + 1 + z.length)) (SB m A z P D) = true := by
  rw [SB_is]
  exact chk_z (m ++ bagO A :: z) [.lst P, .lst D] 0 (by rw [qlen]; rfl) P rfl
theorem chkD (m : Sto) (A : Bag) (z : Sto) (P D : List PV) : chkT "list" (.ref (m.length + 1 + z.length + 1)) (SB m A z P D) = true := by
  rw [SB_is]
  exact chk_z (m ++ bagO A :: z) [.lst P, .lst D] 1 (by rw [qlen]) D rfl
/-- the slots in a lap -/
abbrev EB (s n : Nat) (x2 : Option PV) (l : List Nat) (x6 x7 x8 x9 x10 : Option PV) (q : Nat) (x12 : Option PV) (nm sg : List Nat) (k : Nat) (x17 x18 : Option PV) : Mini.Env :=
  [some (.ref s), some (.ref n), x2, none, none, some (.str l), x6, x7, x8, x9, x10, some (.ref q), x12, some (.str nm), some (.str sg), some (.int (k : Nat)), some (.ref (q + 1)), x17, x18]
def bB1 : Fs := (sAsg (.nm 17) (fCl 2 F_law_some (aCons (fVar 1) (aCons (fLst (lDisp (aCons (fC (.str [119, 111, 114, 100])) (aCons (fC (.str [110, 97, 109, 101])) (aCons (fC (.str [115, 105, 103, 110, 115])) (aCons (fC (.str [99, 111, 117, 110, 116])) aNil)))))) aNil))))
theorem bB1_run (s n q : Nat) (x2 : Option PV) (l : List Nat) (x6 x7 x8 x9 x10 x12 : Option PV) (nm sg : List Nat) (k : Nat) (x17 x18 : Option PV) (M M' : Sto) (v : PV) (h : F_law_some [.ref n, .lst [.str [119, 111, 114, 100], .str [110, 97, 109, 101], .str [115, 105, 103, 110, 115], .str [99, 111, 117, 110, 116]]] M = some (v, M')) :
    bB1 (EB s n x2 l x6 x7 x8 x9 x10 q x12 nm sg k x17 x18) M = some (.ok (.next (EB s n x2 l x6 x7 x8 x9 x10 q x12 nm sg k (some v) x18)), M') := by
  simp [bB1, EB, tup_small, h]
def bB3 : Fs := (sDrop (fBm "list" vAppend (fVar 11) (aCons (fTup (aCons (fC (.str [119, 111, 114, 100])) (aCons (fC (.str [32])) aNil))) aNil)))
theorem bB3_run (s n q : Nat) (x2 : Option PV) (l : List Nat) (x6 x7 x8 x9 x10 x12 : Option PV) (nm sg : List Nat) (k : Nat) (x17 x18 : Option PV) (M M' : Sto) (hc : chkT "list" (.ref q) M = true) (h : vAppend (.ref q) [spP] M = some (.non, M')) :
    bB3 (EB s n x2 l x6 x7 x8 x9 x10 q x12 nm sg k x17 x18) M = some (.ok (.next (EB s n x2 l x6 x7 x8 x9 x10 q x12 nm sg k x17 x18)), M') := by
  have h' : vAppend (.ref q) [.tup [.str [119, 111, 114, 100], .str [32]]] M = some (.non, M') := h
  simp [bB3, EB, tup_small, hc, h']
def bB4 : Fs := (sAsg (.nm 5) (f2 vAdd (fVar 5) (fC (.str [32]))))
theorem bB4_run (s n q : Nat) (x2 : Option PV) (l : List Nat) (x6 x7 x8 x9 x10 x12 : Option PV) (nm sg : List Nat) (k : Nat) (x17 x18 : Option PV) (M : Sto) (hl : l.length ≤ 9000) :
    bB4 (EB s n x2 l x6 x7 x8 x9 x10 q x12 nm sg k x17 x18) M = some (.ok (.next (EB s n x2 (l ++ [32]) x6 x7 x8 x9 x10 q x12 nm sg k x17 x18)), M) := by
  have := fadd (fa := fVar 5) (fb := fC (.str [32])) (r := EB s n x2 l x6 x7 x8 x9 x10 q x12 nm sg k x17 x18) (m := M) (a := l) (b := [32]) rfl rfl (by simp; omega)
  simp only [bB4, e_asg, e_bind, this, e_put]
  rfl
def kdA : Fe := (fDisp [((fC (.str [110, 97, 109, 101])), (fC .non)), ((fC (.str [115, 105, 103, 110, 115])), (fTup (aCons (fC (.str [97, 98, 99])) (aCons (fC (.int 2)) (aCons (fC (.int 12)) aNil))))), ((fC (.str [99, 111, 117, 110, 116])), (fC (.int 50)))])
def kdB : Fe := (fDisp [((fC (.str [110, 97, 109, 101])), (fVar 13)), ((fC (.str [115, 105, 103, 110, 115])), (fVar 14)), ((fC (.str [99, 111, 117, 110, 116])), (fVar 15))])
def kdC : Fe := (fDisp [((fC (.str [110, 97, 109, 101])), (fVar 13)), ((fC (.str [115, 105, 103, 110, 115])), (fVar 14)), ((fC (.str [99, 111, 117, 110, 116])), (fBlt Mini.vStr (aCons (fVar 15) aNil)))])
theorem keys3 : keysOf [.str sName, .str sSigns, .str sCount] = some [.inr (mkS sName), .inr (mkS sSigns), .inr (mkS sCount)] := rfl
theorem nd3 : ([.inr (mkS sName), .inr (mkS sSigns), .inr (mkS sCount)] : List L2.Key).Nodup ∧ ([.inr (mkS sName), .inr (mkS sSigns), .inr (mkS sCount)] : List L2.Key).length ≤ 15 := by
  constructor
  · have h1 : mkS sName ≠ mkS sSigns := fun h => absurd (mkS_inj h) (by decide)
    have h2 : mkS sName ≠ mkS sCount := fun h => absurd (mkS_inj h) (by decide)
    have h3 : mkS sSigns ≠ mkS sCount := fun h => absurd (mkS_inj h) (by decide)
    simp [h1, h2, h3]
  · decide
theorem disp3 {a b c : Fe} {r : Mini.Env} {M : Sto} {x y z : PV} (ha : a r M = some (.ok x, M)) (hb : b r M = some (.ok y, M)) (hc : c r M = some (.ok z, M)) :
    fDisp [((fC (.str [110, 97, 109, 101])), a), ((fC (.str [115, 105, 103, 110, 115])), b), ((fC (.str [99, 111, 117, 110, 116])), c)] r M = some (.ok (.dct [.str sName, .str sSigns, .str sCount] [x, y, z]), M) := by
  have hk : keysOf [.str [110, 97, 109, 101], .str [115, 105, 103, 110, 115], .str [99, 111, 117, 110, 116]] = some [.inr (mkS sName), .inr (mkS sSigns), .inr (mkS sCount)] := keys3
  simp only [e_dis, e_prs, e_prs0, e_C, e_bind, ha, hb, hc, hk]
  rw [if_pos nd3]
  rfl
theorem dget3 (x y z : PV) (k : List Nat) (M : Sto) : vDget (.dct [.str sName, .str sSigns, .str sCount] [x, y, z]) (.str k) M = if sName = k then some x else if sSigns = k then some y else if sCount = k then some z else none := by
  have h : ∀ a : List Nat, (Mini.keyOf (.str a) = some (.inr (mkS k))) = (a = k) := fun a => by
    simp only [Mini.keyOf, Option.some.injEq, Sum.inr.injEq, eq_iff_iff]
    exact ⟨fun h => mkS_inj h, fun h => by rw [h]⟩
  simp only [vDget, Mini.keyOf, dLook]
  simp only [Mini.keyOf] at h
  simp only [h]
end K29
namespace K29
open PySem L2 Mini
def wW1 : Fs := (sAsg (.nm 12) (fCl 2 F_law_some (aCons (fVar 1) (aCons (fLst (lDisp (aCons (fC (.str [98, 105, 110, 32])) (aCons (fC (.str [32, 97, 116, 32])) (aCons (fC (.str [99, 101, 108, 108, 115, 32])) (aCons (fC (.str [111, 110])) aNil)))))) aNil))))
def wW2 : Fs := (sDrop (fBm "list" vAppend (fVar 11) (aCons (fTup (aCons (fVar 17) (aCons (fVar 12) aNil))) aNil)))
def wW3 : Fs := (sAsg (.nm 5) (f2 vAdd (fVar 5) (fVar 12)))
def wO1 : Fs := (sDrop (fBm "list" vAppend (fVar 11) (aCons (fTup (aCons (fVar 17) (aCons (f2 vDget kdA (fVar 17)) aNil))) aNil)))
def wO2 : Fs := (sDrop (fBm "list" vAppend (fVar 16) (aCons (f2 vDget kdB (fVar 17)) aNil)))
def wO3 : Fs := (sAsg (.nm 5) (f2 vAdd (fVar 5) (f2 vDget kdC (fVar 17))))
def bB2 : Fs := (sIf (fTst (f2 vEq (fVar 17) (fC (.str [119, 111, 114, 100])))) (sSeq wW1 (sSeq wW2 wW3)) (sSeq wO1 (sSeq wO2 wO3)))
def bB : Fs := sSeq bB1 (sSeq bB2 (sSeq bB3 bB4))
section
variable (s n q : Nat) (x2 : Option PV) (l : List Nat) (x6 x7 x8 x9 x10 x12 : Option PV) (nm sg : List Nat) (k : Nat) (x18 : Option PV) (M : Sto)
theorem wW_run (w : List Nat) (M1 M2 : Sto) (hl : l.length + w.length ≤ 9000) (h1 : F_law_some [.ref n, .lst (words4.map PV.str)] M = some (.str w, M1)) (hc : chkT "list" (.ref q) M1 = true) (h2 : vAppend (.ref q) [(Item.word w).part] M1 = some (.non, M2)) :
    bB2 (EB s n x2 l x6 x7 x8 x9 x10 q x12 nm sg k (some (.str sWord)) x18) M = some (.ok (.next (EB s n x2 (l ++ w) x6 x7 x8 x9 x10 q (some (.str w)) nm sg k (some (.str sWord)) x18)), M2) := by
  have h1' : F_law_some [.ref n, .lst [.str [98, 105, 110, 32], .str [32, 97, 116, 32], .str [99, 101, 108, 108, 115, 32], .str [111, 110]]] M = some (.str w, M1) := h1
  have e1 : wW1 (EB s n x2 l x6 x7 x8 x9 x10 q x12 nm sg k (some (.str sWord)) x18) M = some (.ok (.next (EB s n x2 l x6 x7 x8 x9 x10 q (some (.str w)) nm sg k (some (.str sWord)) x18)), M1) := by
    simp [wW1, EB, tup_small, h1']
  have h2' : vAppend (.ref q) [.tup [.str sWord, .str w]] M1 = some (.non, M2) := h2
  have e2 : wW2 (EB s n x2 l x6 x7 x8 x9 x10 q (some (.str w)) nm sg k (some (.str sWord)) x18) M1 = some (.ok (.next (EB s n x2 l x6 x7 x8 x9 x10 q (some (.str w)) nm sg k (some (.str sWord)) x18)), M2) := by
    simp [wW2, EB, tup_small, hc, h2']
  have a := fadd (fa := fVar 5) (fb := fVar 12) (r := EB s n x2 l x6 x7 x8 x9 x10 q (some (.str w)) nm sg k (some (.str sWord)) x18) (m := M2) (a := l) (b := w) rfl rfl (by omega)
  have e3 : wW3 (EB s n x2 l x6 x7 x8 x9 x10 q (some (.str w)) nm sg k (some (.str sWord)) x18) M2 = some (.ok (.next (EB s n x2 (l ++ w) x6 x7 x8 x9 x10 q (some (.str w)) nm sg k (some (.str sWord)) x18)), M2) := by
    simp only [wW3, e_asg, e_bind, a, e_put]
    rfl
  have ht : fTst (f2 vEq (fVar 17) (fC (.str [119, 111, 114, 100]))) (EB s n x2 l x6 x7 x8 x9 x10 q x12 nm sg k (some (.str sWord)) x18) M = some (.ok true, M) := by
    simp [EB, sWord]
  simp only [bB2, e_sIf, ht, e_bind, if_true]
  exact seq_next e1 (seq_next e2 e3)
theorem wO_run (kd : List Nat) (v1 v2 : PV) (t : List Nat) (M1 M2 : Sto) (hk : kd ≠ sWord) (hk6 : k < 60) (hl : l.length + t.length ≤ 9000)
    (d1 : ∀ M, vDget (.dct [.str sName, .str sSigns, .str sCount] [.non, .tup [.str [97, 98, 99], .int 2, .int 12], .int 50]) (.str kd) M = some v1)
    (d2 : ∀ M, vDget (.dct [.str sName, .str sSigns, .str sCount] [.str nm, .str sg, .int (k : Nat)]) (.str kd) M = some v2)
    (d3 : ∀ M, vDget (.dct [.str sName, .str sSigns, .str sCount] [.str nm, .str sg, .str (fg k)]) (.str kd) M = some (.str t))
    (hc : chkT "list" (.ref q) M = true) (h1 : vAppend (.ref q) [.tup [.str kd, v1]] M = some (.non, M1)) (hc2 : chkT "list" (.ref (q + 1)) M1 = true) (h2 : vAppend (.ref (q + 1)) [v2] M1 = some (.non, M2)) :
    bB2 (EB s n x2 l x6 x7 x8 x9 x10 q x12 nm sg k (some (.str kd)) x18) M = some (.ok (.next (EB s n x2 (l ++ t) x6 x7 x8 x9 x10 q x12 nm sg k (some (.str kd)) x18)), M2) := by
  have kA : ∀ M, kdA (EB s n x2 l x6 x7 x8 x9 x10 q x12 nm sg k (some (.str kd)) x18) M = some (.ok (.dct [.str sName, .str sSigns, .str sCount] [.non, .tup [.str [97, 98, 99], .int 2, .int 12], .int 50]), M) := fun M =>
    disp3 rfl (by simp [tup_small]) rfl
  have kB : ∀ M, kdB (EB s n x2 l x6 x7 x8 x9 x10 q x12 nm sg k (some (.str kd)) x18) M = some (.ok (.dct [.str sName, .str sSigns, .str sCount] [.str nm, .str sg, .int (k : Nat)]), M) := fun M => disp3 rfl rfl rfl
  have kC : ∀ M, kdC (EB s n x2 l x6 x7 x8 x9 x10 q x12 nm sg k (some (.str kd)) x18) M = some (.ok (.dct [.str sName, .str sSigns, .str sCount] [.str nm, .str sg, .str (fg k)]), M) := fun M => disp3 rfl rfl (fstr (i := 15) rfl hk6)
  have e1 : wO1 (EB s n x2 l x6 x7 x8 x9 x10 q x12 nm sg k (some (.str kd)) x18) M = some (.ok (.next (EB s n x2 l x6 x7 x8 x9 x10 q x12 nm sg k (some (.str kd)) x18)), M1) := by
    have g1 : f2 vDget kdA (fVar 17) (EB s n x2 l x6 x7 x8 x9 x10 q x12 nm sg k (some (.str kd)) x18) M = some (.ok v1, M) := by
      simp only [e_2, kA, e_bind, e_var, EB, List.getElem?_cons_succ, List.getElem?_cons_zero, d1, e_up]
    simp only [wO1, e_drop, e_bm, e_bind, e_var, EB, List.getElem?_cons_succ, List.getElem?_cons_zero, hc, if_true, e_cons, e_tup, e_nil, List.length_cons, List.length_nil, tup_small (n := 0 + 1 + 1) (by decide)]
    rw [show f2 vDget kdA (fVar 17) [some (.ref s), some (.ref n), x2, none, none, some (.str l), x6, x7, x8, x9, x10, some (.ref q), x12, some (.str nm), some (.str sg), some (.int (k : Nat)), some (.ref (q + 1)), some (.str kd), x18] M = some (.ok v1, M) from g1]
    simp [tup_small, h1]
  have e2 : wO2 (EB s n x2 l x6 x7 x8 x9 x10 q x12 nm sg k (some (.str kd)) x18) M1 = some (.ok (.next (EB s n x2 l x6 x7 x8 x9 x10 q x12 nm sg k (some (.str kd)) x18)), M2) := by
    have g1 : f2 vDget kdB (fVar 17) (EB s n x2 l x6 x7 x8 x9 x10 q x12 nm sg k (some (.str kd)) x18) M1 = some (.ok v2, M1) := by
      simp only [e_2, kB, e_bind, e_var, EB, List.getElem?_cons_succ, List.getElem?_cons_zero, d2, e_up]
    simp only [wO2, e_drop, e_bm, e_bind, e_var, EB, List.getElem?_cons_succ, List.getElem?_cons_zero, hc2, if_true, e_cons, e_nil]
    rw [show f2 vDget kdB (fVar 17) [some (.ref s), some (.ref n), x2, none, none, some (.str l), x6, x7, x8, x9, x10, some (.ref q), x12, some (.str nm), some (.str sg), some (.int (k : Nat)), some (.ref (q + 1)), some (.str kd), x18] M1 = some (.ok v2, M1) from g1]
    simp only [h2, e_upS]
  have g3 : f2 vDget kdC (fVar 17) (EB s n x2 l x6 x7 x8 x9 x10 q x12 nm sg k (some (.str kd)) x18) M2 = some (.ok (.str t), M2) := by
    simp only [e_2, kC, e_bind, e_var, EB, List.getElem?_cons_succ, List.getElem?_cons_zero, d3, e_up]
  have a := fadd (fa := fVar 5) (r := EB s n x2 l x6 x7 x8 x9 x10 q x12 nm sg k (some (.str kd)) x18) (m := M2) (a := l) rfl g3 (by omega)
  have e3 : wO3 (EB s n x2 l x6 x7 x8 x9 x10 q x12 nm sg k (some (.str kd)) x18) M2 = some (.ok (.next (EB s n x2 (l ++ t) x6 x7 x8 x9 x10 q x12 nm sg k (some (.str kd)) x18)), M2) := by
    simp only [wO3, e_asg, e_bind, a, e_put]
    rfl
  have ht : fTst (f2 vEq (fVar 17) (fC (.str [119, 111, 114, 100]))) (EB s n x2 l x6 x7 x8 x9 x10 q x12 nm sg k (some (.str kd)) x18) M = some (.ok false, M) := by
    have : ¬ kd = [119, 111, 114, 100] := hk
    simp [EB, this]
  simp only [bB2, e_sIf, ht, e_bind, Bool.false_eq_true, if_false]
  exact seq_next e1 (seq_next e2 e3)
end
end K29
namespace K29
open PySem L2 Mini
theorem text_len (i : Item) (h : i.ok) (hw : ∀ w, i = .word w → w.length ≤ 20) : i.text.length ≤ 20 := by
  cases i with
  | word w => exact hw w rfl
  | name n => have := nm_len (nm := n) h; simp only [Item.text]; omega
  | signs s => have : s.length ≤ 12 := h.2.1; simp only [Item.text]; omega
  | count k => have := fg_len k; simp only [Item.text]; omega
theorem item_len (nm sg : List Nat) (k : Nat) (A : Bag) (hn : nameB nm = true) (hs : 2 ≤ sg.length ∧ sg.length ≤ 12 ∧ ∀ c ∈ sg, c = 97 ∨ c = 98 ∨ c = 99) (hk : k < 40) : (itemB nm sg k A).1.text.length ≤ 20 := by
  refine text_len _ (item_ok nm sg k A hn hs hk) fun w hw => ?_
  have h4 : ∀ j < 4, (words4.getD j []).length ≤ 20 := by decide
  unfold itemB at hw
  simp only at hw
  split at hw
  · cases hw
    exact h4 _ (tkN_lt _ (by decide))
  · split at hw
    · cases hw
    · split at hw <;> cases hw
theorem bB_run (s : Nat) (m : Sto) (x2 : Option PV) (l : List Nat) (x6 x7 x8 x9 x10 x12 : Option PV) (nm sg : List Nat) (k : Nat) (x17 x18 : Option PV) (A : Bag) (z : Sto) (P D : List PV) (hc : A.cs.length ≤ 1000) (hP : P.length ≤ 1000) (hD : D.length ≤ 1000) (hl : l.length ≤ 1000)
    (hn : nameB nm = true) (hs : 2 ≤ sg.length ∧ sg.length ≤ 12 ∧ ∀ c ∈ sg, c = 97 ∨ c = 98 ∨ c = 99) (hk : k < 40) :
    ∃ x12' x17', bB (EB s m.length x2 l x6 x7 x8 x9 x10 (m.length + 1 + z.length) x12 nm sg k x17 x18) (SB m A z P D) =
      some (.ok (.next (EB s m.length x2 (l ++ ((itemB nm sg k A).1.text ++ [32])) x6 x7 x8 x9 x10 (m.length + 1 + z.length) x12' nm sg k x17' x18)), SB m (itemB nm sg k A).2 z (P ++ [(itemB nm sg k A).1.part, spP]) (D ++ (itemB nm sg k A).1.due)) := by
  have hz : sizeLine = 16777216 := rfl
  have hil := item_len nm sg k A hn hs hk
  have b1 := some_at m (z ++ [.lst P, .lst D]) A hc four (by decide) (by decide)
  have t4 := tkN_lt A (n := 4) (by decide)
  have hB : (tkB A 4).cs.length ≤ 1000 := by simpa using hc
  have r1 := fun v h => bB1_run s m.length (m.length + 1 + z.length) x2 l x6 x7 x8 x9 x10 x12 nm sg k x17 x18 (SB m A z P D) (SB m (tkB A 4) z P D) v h
  have r1 := r1 _ b1
  have key : ∃ x12', bB2 (EB s m.length x2 l x6 x7 x8 x9 x10 (m.length + 1 + z.length) x12 nm sg k (some (.str (four.getD (tkN A 4) []))) x18) (SB m (tkB A 4) z P D) =
      some (.ok (.next (EB s m.length x2 (l ++ (itemB nm sg k A).1.text) x6 x7 x8 x9 x10 (m.length + 1 + z.length) x12' nm sg k (some (.str (four.getD (tkN A 4) []))) x18)), SB m (itemB nm sg k A).2 z (P ++ [(itemB nm sg k A).1.part]) (D ++ (itemB nm sg k A).1.due)) := by
    unfold itemB at hil ⊢
    simp only at hil ⊢
    by_cases h0 : tkN A 4 = 0
    · rw [if_pos h0] at hil ⊢
      rw [h0]
      have w1 : F_law_some [.ref m.length, .lst (words4.map PV.str)] (SB m (tkB A 4) z P D) = some (.str (words4.getD (tkN (tkB A 4) 4) []), SB m (tkB (tkB A 4) 4) z P D) := some_at m (z ++ [.lst P, .lst D]) (tkB A 4) hB words4 (by decide) (by decide)
      have := wW_run s m.length (m.length + 1 + z.length) x2 l x6 x7 x8 x9 x10 x12 nm sg k x18 (SB m (tkB A 4) z P D) _ (SB m (tkB (tkB A 4) 4) z P D) (SB m (tkB (tkB A 4) 4) z (P ++ [(Item.word (words4.getD (tkN (tkB A 4) 4) [])).part]) D) (by simp only [Item.text] at hil; omega) w1 (chkP m _ z P D) (appP m _ z P D _ (by omega))
      refine ⟨some (.str (words4.getD (tkN (tkB A 4) 4) [])), ?_⟩
      simp only [Item.due, List.append_nil]
      exact this
    · rw [if_neg h0] at hil ⊢
      have gen : ∀ (kd : List Nat) (i : Item) (v1 v2 : PV), four.getD (tkN A 4) [] = kd → kd ≠ sWord → i.text.length ≤ 20 → i.part = .tup [.str kd, v1] → i.due = [v2] →
          (∀ M, vDget (.dct [.str sName, .str sSigns, .str sCount] [.non, .tup [.str [97, 98, 99], .int 2, .int 12], .int 50]) (.str kd) M = some v1) →
          (∀ M, vDget (.dct [.str sName, .str sSigns, .str sCount] [.str nm, .str sg, .int (k : Nat)]) (.str kd) M = some v2) →
          (∀ M, vDget (.dct [.str sName, .str sSigns, .str sCount] [.str nm, .str sg, .str (fg k)]) (.str kd) M = some (.str i.text)) →
          ∃ x12', bB2 (EB s m.length x2 l x6 x7 x8 x9 x10 (m.length + 1 + z.length) x12 nm sg k (some (.str (four.getD (tkN A 4) []))) x18) (SB m (tkB A 4) z P D) =
            some (.ok (.next (EB s m.length x2 (l ++ i.text) x6 x7 x8 x9 x10 (m.length + 1 + z.length) x12' nm sg k (some (.str (four.getD (tkN A 4) []))) x18)), SB m (tkB A 4) z (P ++ [i.part]) (D ++ i.due)) := fun kd i v1 v2 e0 e1 e2 e3 e4 d1 d2 d3 => by
        rw [e0, e3, e4]
        exact ⟨_, wO_run s m.length (m.length + 1 + z.length) x2 l x6 x7 x8 x9 x10 x12 nm sg k x18 (SB m (tkB A 4) z P D) kd v1 v2 i.text _ _ e1 (by omega) (by omega) d1 d2 d3 (chkP m _ z P D) (appP m _ z P D _ (by omega)) (chkD m _ z _ D) (appD m _ z _ D _ (by omega))⟩
      have n1 : ¬ sName = sSigns := by decide
      have n2 : ¬ sName = sCount := by decide
      have n3 : ¬ sSigns = sCount := by decide
      by_cases h1 : tkN A 4 = 1
      · rw [if_pos h1] at hil ⊢
        exact gen sName (.name nm) .non (.str nm) (by rw [h1]; rfl) (by decide) hil rfl rfl (fun M => by rw [dget3, if_pos rfl]) (fun M => by rw [dget3, if_pos rfl]) (fun M => by rw [dget3, if_pos rfl]; rfl)
      · rw [if_neg h1] at hil ⊢
        by_cases h2 : tkN A 4 = 2
        · rw [if_pos h2] at hil ⊢
          exact gen sSigns (.signs sg) _ (.str sg) (by rw [h2]; rfl) (by decide) hil rfl rfl (fun M => by rw [dget3, if_neg n1, if_pos rfl]) (fun M => by rw [dget3, if_neg n1, if_pos rfl]) (fun M => by rw [dget3, if_neg n1, if_pos rfl]; rfl)
        · rw [if_neg h2] at hil ⊢
          have h3 : tkN A 4 = 3 := by omega
          exact gen sCount (.count k) (.int 50) (.int (k : Nat)) (by rw [h3]; rfl) (by decide) hil rfl rfl (fun M => by rw [dget3, if_neg n2, if_neg n3, if_pos rfl]) (fun M => by rw [dget3, if_neg n2, if_neg n3, if_pos rfl]) (fun M => by rw [dget3, if_neg n2, if_neg n3, if_pos rfl]; rfl)
  obtain ⟨x12', r2⟩ := key
  have r3 := bB3_run s m.length (m.length + 1 + z.length) x2 (l ++ (itemB nm sg k A).1.text) x6 x7 x8 x9 x10 x12' nm sg k (some (.str (four.getD (tkN A 4) []))) x18 _ _ (chkP m (itemB nm sg k A).2 z (P ++ [(itemB nm sg k A).1.part]) (D ++ (itemB nm sg k A).1.due)) (appP m _ z _ _ spP (by simp; omega))
  have r4 := bB4_run s m.length (m.length + 1 + z.length) x2 (l ++ (itemB nm sg k A).1.text) x6 x7 x8 x9 x10 x12' nm sg k (some (.str (four.getD (tkN A 4) []))) x18 (SB m (itemB nm sg k A).2 z (P ++ [(itemB nm sg k A).1.part] ++ [spP]) (D ++ (itemB nm sg k A).1.due)) (by simp; omega)
  refine ⟨x12', some (.str (four.getD (tkN A 4) [])), ?_⟩
  have := seq_next r1 (seq_next r2 (seq_next r3 r4))
  rw [List.append_assoc P, List.append_assoc l] at this
  exact this
end K29
namespace K29
open PySem L2 Mini
/-- parts drawn, one behind the other -/
def itemsB (nm sg : List Nat) (k : Nat) : Nat → Bag → List Item × Bag
  | 0, A => ([], A)
  | n + 1, A => let q := itemsB nm sg k n (itemB nm sg k A).2
    ((itemB nm sg k A).1 :: q.1, q.2)
theorem items_cs (nm sg : List Nat) (k : Nat) : ∀ (n : Nat) (A : Bag), (itemsB nm sg k n A).2.cs = A.cs
  | 0, A => rfl
  | n + 1, A => by simp [itemsB, items_cs nm sg k n, item_cs]
theorem items_ok (nm sg : List Nat) (k : Nat) (hn : nameB nm = true) (hs : 2 ≤ sg.length ∧ sg.length ≤ 12 ∧ ∀ c ∈ sg, c = 97 ∨ c = 98 ∨ c = 99) (hk : k < 40) : ∀ (n : Nat) (A : Bag), ∀ i ∈ (itemsB nm sg k n A).1, i.ok
  | 0, A => by simp [itemsB]
  | n + 1, A => fun i hi => by
    simp only [itemsB, List.mem_cons] at hi
    rcases hi with rfl | hi
    · exact item_ok nm sg k A hn hs hk
    · exact items_ok nm sg k hn hs hk n _ i hi
theorem items_len (nm sg : List Nat) (k : Nat) (hn : nameB nm = true) (hs : 2 ≤ sg.length ∧ sg.length ≤ 12 ∧ ∀ c ∈ sg, c = 97 ∨ c = 98 ∨ c = 99) (hk : k < 40) : ∀ (n : Nat) (A : Bag), (lineI (itemsB nm sg k n A).1).length ≤ 21 * n ∧ (itemsB nm sg k n A).1.length = n
  | 0, A => by simp [itemsB, lineI]
  | n + 1, A => by
    have h1 := item_len nm sg k A hn hs hk
    have h2 := items_len nm sg k hn hs hk n (itemB nm sg k A).2
    simp only [itemsB, lineI, List.length_append, List.length_cons]
    omega
theorem due_len (i : Item) : i.due.length ≤ 1 := by cases i <;> simp [Item.due]
theorem bB_loop (s : Nat) (m : Sto) (x2 : Option PV) (x7 x8 x9 x10 : Option PV) (nm sg : List Nat) (k : Nat) (x18 : Option PV) (z : Sto) (hn : nameB nm = true) (hs : 2 ≤ sg.length ∧ sg.length ≤ 12 ∧ ∀ c ∈ sg, c = 97 ∨ c = 98 ∨ c = 99) (hk : k < 40) (src : Src) (hsrc : ∀ m, src.ok m) :
    ∀ (xs : List PV) (l : List Nat) (x6 x12 x17 : Option PV) (A : Bag) (P D : List PV), A.cs.length ≤ 1000 → P.length + 2 * xs.length ≤ 900 → D.length + xs.length ≤ 900 → l.length + 21 * xs.length ≤ 900 →
    ∃ x6' x12' x17', loopF src (.nm 6) bB xs (EB s m.length x2 l x6 x7 x8 x9 x10 (m.length + 1 + z.length) x12 nm sg k x17 x18) (SB m A z P D) =
      some (.ok (.next (EB s m.length x2 (l ++ lineI (itemsB nm sg k xs.length A).1) x6' x7 x8 x9 x10 (m.length + 1 + z.length) x12' nm sg k x17' x18)), SB m (itemsB nm sg k xs.length A).2 z (P ++ partsOf (itemsB nm sg k xs.length A).1) (D ++ duesOf (itemsB nm sg k xs.length A).1))
  | [], l, x6, x12, x17, A, P, D, hc, hP, hD, hl => ⟨x6, x12, x17, by rw [loopF_0 (hsrc _)]; simp [itemsB, lineI, partsOf, duesOf]⟩
  | x :: xs, l, x6, x12, x17, A, P, D, hc, hP, hD, hl => by
    simp only [List.length_cons] at hP hD hl
    obtain ⟨x12a, x17a, b⟩ := bB_run s m x2 l (some x) x7 x8 x9 x10 x12 nm sg k x17 x18 A z P D hc (by omega) (by omega) (by omega) hn hs hk
    have hil := item_len nm sg k A hn hs hk
    have hdl := due_len (itemB nm sg k A).1
    obtain ⟨x6', x12', x17', ih⟩ := bB_loop s m x2 x7 x8 x9 x10 nm sg k x18 z hn hs hk src hsrc xs (l ++ ((itemB nm sg k A).1.text ++ [32])) (some x) x12a x17a (itemB nm sg k A).2 (P ++ [(itemB nm sg k A).1.part, spP]) (D ++ (itemB nm sg k A).1.due) (by rw [item_cs]; exact hc) (by simp; omega) (by simp; omega) (by simp; omega)
    refine ⟨x6', x12', x17', ?_⟩
    rw [loopF_e (hsrc _)]
    simp only [e_put]
    rw [show (EB s m.length x2 l x6 x7 x8 x9 x10 (m.length + 1 + z.length) x12 nm sg k x17 x18).set 6 (some x) = EB s m.length x2 l (some x) x7 x8 x9 x10 (m.length + 1 + z.length) x12 nm sg k x17 x18 from rfl, b]
    simp only [Res.bind]
    rw [ih]
    simp [itemsB, lineI, partsOf, duesOf]
end K29
namespace K29
open PySem L2 Mini
def names4 : List (List Nat) := [[120], [97, 98, 51], [114, 114], [113, 49, 50, 51, 52, 53, 54, 55]]
def lL1 : Fs := (sPar [13, 14, 15] (aCons (fCl 2 F_law_some (aCons (fVar 1) (aCons (fLst (lDisp (aCons (fC (.str [120])) (aCons (fC (.str [97, 98, 51])) (aCons (fC (.str [114, 114])) (aCons (fC (.str [113, 49, 50, 51, 52, 53, 54, 55])) aNil)))))) aNil))) (aCons (fCl 3 F_law_word (aCons (fVar 1) (aCons (fC (.int 2)) (aCons (fC (.int 5)) aNil)))) (aCons (fCl 2 F_law_take (aCons (fVar 1) (aCons (fC (.int 40)) aNil))) aNil))))
def lL2 : Fs := (sPar [11, 5, 16] (aCons (fAlloc (lDisp aNil)) (aCons (fC (.str [])) (aCons (fAlloc (lDisp aNil)) aNil))))
theorem lL1_run (s n : Nat) (x2 x5 x6 x7 x8 x9 x10 x11 x12 x13 x14 x15 x16 x17 x18 : Option PV) (M M1 M2 M3 : Sto) (nm sg : List Nat) (k : Nat)
    (h1 : F_law_some [.ref n, .lst [.str [120], .str [97, 98, 51], .str [114, 114], .str [113, 49, 50, 51, 52, 53, 54, 55]]] M = some (.str nm, M1)) (h2 : F_law_word [.ref n, .int 2, .int 5] M1 = some (.str sg, M2)) (h3 : F_law_take [.ref n, .int 40] M2 = some (.int (k : Nat), M3)) :
    lL1 [some (.ref s), some (.ref n), x2, none, none, x5, x6, x7, x8, x9, x10, x11, x12, x13, x14, x15, x16, x17, x18] M = some (.ok (.next [some (.ref s), some (.ref n), x2, none, none, x5, x6, x7, x8, x9, x10, x11, x12, some (.str nm), some (.str sg), some (.int (k : Nat)), x16, x17, x18]), M3) := by
  simp [lL1, tup_small, h1, h2, h3]
theorem lL2_run (s n : Nat) (x2 x5 x6 x7 x8 x9 x10 x11 x12 x13 x14 x15 x16 x17 x18 : Option PV) (M : Sto) :
    lL2 [some (.ref s), some (.ref n), x2, none, none, x5, x6, x7, x8, x9, x10, x11, x12, x13, x14, x15, x16, x17, x18] M = some (.ok (.next [some (.ref s), some (.ref n), x2, none, none, some (.str []), x6, x7, x8, x9, x10, some (.ref M.length), x12, x13, x14, x15, some (.ref (M.length + 1)), x17, x18]), M ++ [.lst [], .lst []]) := by
  simp [lL2, tup_small]
theorem ne_same {x y : PV} {m : Sto} {d : PyData} (h1 : toD m deepest x = some d) (h2 : toD m deepest y = some d) (hp : d.plain = true) : vNe x y m = some (.bl false) := by
  unfold vNe vEqB
  rw [h1, h2]
  simp [PySem.SeqAt.eqv_refl_plain d hp]
/-- a due value as data -/
def dueD : PV → Option PyData
  | .str z => some (.str (mkS z))
  | .int i => some (.int i)
  | _ => none
theorem dues_D : ∀ (is : List Item) (m : Sto) (k : Nat), ∃ ds, toDs m k (duesOf is) = some ds ∧ PyData.plainAll ds = true
  | [], m, k => ⟨[], by simp [duesOf, toDs], by simp [PyData.plainAll]⟩
  | i :: is, m, k => by
    obtain ⟨ds, h1, h2⟩ := dues_D is m k
    cases i with
    | word w => exact ⟨ds, by simpa [duesOf, Item.due] using h1, h2⟩
    | name w => exact ⟨.str (mkS w) :: ds, by simp [duesOf, Item.due, toDs, toD_str, h1], by simp [PyData.plainAll, PyData.plain, h2]⟩
    | signs w => exact ⟨.str (mkS w) :: ds, by simp [duesOf, Item.due, toDs, toD_str, h1], by simp [PyData.plainAll, PyData.plain, h2]⟩
    | count k' => exact ⟨.int (k' : Nat) :: ds, by simp [duesOf, Item.due, toDs, toD_int, h1], by simp [PyData.plainAll, PyData.plain, h2]⟩
end K29
namespace K29
open PySem L2 Mini
def lL4 : Fs := (sDrop (fBm "list" vAppend (fVar 11) (aCons (fTup (aCons (fC (.str [101, 110, 100])) (aCons (fC .non) aNil))) aNil)))
def lL5 : Fs := (sAsg (.tp [(.nm 9), (.nm 18)]) (fCl 2 F_law_scan (aCons (fVar 5) (aCons (fVar 11) aNil))))
def lL6 : Fs := (sIf (fTst (f2 vNe (fTup (aCons (f1 (vFl 1 "text") (fVar 9)) (aCons (f1 (vFl 1 "at") (fVar 9)) (aCons (f1 (vFl 1 "good") (fVar 9)) (aCons (fVar 18) aNil))))) (fTup (aCons (fVar 5) (aCons (fBlt vLen (aCons (fVar 5) aNil)) (aCons (fC (.bl true)) (aCons (fVar 16) aNil))))))) (sRet (fC (.bl false))) sNil)
section
variable (s n q : Nat) (x2 : Option PV) (l : List Nat) (x6 x7 x8 x9 x10 x12 : Option PV) (nm sg : List Nat) (k : Nat) (x17 x18 : Option PV) (M : Sto)
theorem lL4_run (M' : Sto) (hc : chkT "list" (.ref q) M = true) (h : vAppend (.ref q) [endP] M = some (.non, M')) :
    lL4 (EB s n x2 l x6 x7 x8 x9 x10 q x12 nm sg k x17 x18) M = some (.ok (.next (EB s n x2 l x6 x7 x8 x9 x10 q x12 nm sg k x17 x18)), M') := by
  have h' : vAppend (.ref q) [.tup [.str [101, 110, 100], .non]] M = some (.non, M') := h
  simp [lL4, EB, tup_small, hc, h']
theorem lL5_run (a b : PV) (M' : Sto) (h : F_law_scan [.str l, .ref q] M = some (.tup [a, b], M')) :
    lL5 (EB s n x2 l x6 x7 x8 x9 x10 q x12 nm sg k x17 x18) M = some (.ok (.next (EB s n x2 l x6 x7 x8 (some a) x10 q x12 nm sg k x17 (some b))), M') := by
  simp [lL5, EB, h]
theorem lL6_run (i j : Nat) (F D : List PV) (hl : l.length ≤ sizeLine) (hi : M[i]? = some (scO l l.length true)) (hj : M[j]? = some (.lst D)) (hq : M[q + 1]? = some (.lst D)) (ds : List PyData) (hd : toDs M 48 D = some ds) (hp : PyData.plainAll ds = true) :
    lL6 (EB s n x2 l x6 x7 x8 (some (.ref i)) x10 q x12 nm sg k x17 (some (.ref j))) M = some (.ok (.next (EB s n x2 l x6 x7 x8 (some (.ref i)) x10 q x12 nm sg k x17 (some (.ref j)))), M) := by
  have hi' : M[i]? = some (.ins 1 [("text", .str l), ("at", .int (l.length : Nat)), ("good", .bl true)]) := hi
  have hr : ∀ x, M[x]? = some (.lst D) → toD M 49 (.ref x) = some (.list ds) := fun x hx => by
    rw [show (49 : Nat) = 48 + 1 from rfl]
    simp only [toD, hx, hd, Option.map_some]
  have e : ∀ x, M[x]? = some (.lst D) → toD M deepest (.tup [.str l, .int (l.length : Nat), .bl true, .ref x]) = some (.tuple [.str (mkS l), .int (l.length : Nat), .bool true, .list ds]) := fun x hx => by
    rw [show deepest = 49 + 1 from rfl]
    simp only [toD, toDs, toD_str, toD_int, toD_bl, hr x hx, Option.map_some]
  have hn := ne_same (e j hj) (e (q + 1) hq) (by simp [PyData.plain, PyData.plainAll, hp])
  simp [lL6, EB, hi', List.lookup, tup_small, hl, hn]
end
def lL7 : Fs := (sAsg (.nm 7) (fCl 2 F_law_take (aCons (fVar 1) (aCons (fBlt vLen (aCons (fVar 5) aNil)) aNil))))
def lL8 : Fs := (sAsg (.nm 8) (f2 vAdd (f2 vAdd (fSl (fVar 5) oNone (oSome (fVar 7))) (fC (.str [63]))) (fSl (fVar 5) (oSome (fVar 7)) oNone)))
def lL9 : Fs := (sAsg (.tp [(.nm 9), (.nm 18)]) (fCl 2 F_law_scan (aCons (fVar 8) (aCons (fVar 11) aNil))))
def lL10 : Fs := (sIf (fOrT (fTst (f1 (vFl 1 "good") (fVar 9))) (fOrT (fTst (f2 vNe (f1 (vFl 1 "at") (fVar 9)) (fVar 7))) (fTst (f2 vNe (f1 (vFl 1 "text") (fVar 9)) (fVar 8))))) (sRet (fC (.bl false))) sNil)
def lL11 : Fs := (sAsg (.tp [(.nm 9), (.nm 18)]) (fCl 2 F_law_scan (aCons (f2 vAdd (fVar 5) (fC (.str [120]))) (aCons (fVar 11) aNil))))
def lL12 : Fs := (sIf (fOrT (fTst (f1 (vFl 1 "good") (fVar 9))) (fTst (f2 vNe (f1 (vFl 1 "at") (fVar 9)) (fBlt vLen (aCons (fVar 5) aNil))))) (sRet (fC (.bl false))) sNil)
def lL13 : Fs := (sAsg (.nm 9) (fMk 1 2 F_Scan_init (aCons (f2 vAdd (fVar 13) (fC (.str [63]))) aNil)))
def lL14 : Fs := (sIf (fOrT (fTst (f2 vNe (fMt 1 "take_name" 1 F_Scan_take_name (fVar 9) aNil) (fVar 13))) (fOrT (fNotT (fTst (f1 (vFl 1 "good") (fVar 9)))) (fOrT (fTst (f2 vNe (f1 (vFl 1 "at") (fVar 9)) (fBlt vLen (aCons (fVar 13) aNil)))) (fNotT (fTst (fCl 1 F_is_name (aCons (fVar 13) aNil))))))) (sRet (fC (.bl false))) sNil)
section
variable (s n q : Nat) (x2 : Option PV) (l : List Nat) (x6 x7 x8 x9 x10 x12 : Option PV) (nm sg : List Nat) (k : Nat) (x17 x18 : Option PV) (M : Sto)
theorem lL7_run (j : Nat) (M' : Sto) (hl : l.length ≤ sizeLine) (h : F_law_take [.ref n, .int (l.length : Nat)] M = some (.int (j : Nat), M')) :
    lL7 (EB s n x2 l x6 x7 x8 x9 x10 q x12 nm sg k x17 x18) M = some (.ok (.next (EB s n x2 l x6 (some (.int (j : Nat))) x8 x9 x10 q x12 nm sg k x17 x18)), M') := by
  simp [lL7, EB, hl, h]
theorem lL8_run (j : Nat) (hl : l.length ≤ 2000) :
    lL8 (EB s n x2 l x6 (some (.int (j : Nat))) x8 x9 x10 q x12 nm sg k x17 x18) M = some (.ok (.next (EB s n x2 l x6 (some (.int (j : Nat))) (some (.str (l.take j ++ [63] ++ l.drop j))) x9 x10 q x12 nm sg k x17 x18)), M) := by
  have hz : l.length ≤ sizeLine := szl (by omega)
  have c1 := cutL_to l j
  have c2 := cutL_from l j
  have g1 : fSl (fVar 5) oNone (oSome (fVar 7)) (EB s n x2 l x6 (some (.int (j : Nat))) x8 x9 x10 q x12 nm sg k x17 x18) M = some (.ok (.str (l.take j)), M) := by
    simp [EB, hz, c1]
  have g2 : fSl (fVar 5) (oSome (fVar 7)) oNone (EB s n x2 l x6 (some (.int (j : Nat))) x8 x9 x10 q x12 nm sg k x17 x18) M = some (.ok (.str (l.drop j)), M) := by
    simp [EB, hz, c2]
  have a := fadd (fadd (fb := fC (.str [63])) (b := [63]) g1 rfl (by simp; omega)) g2 (by simp; omega)
  simp only [lL8, e_asg, e_bind, a, e_put]
  rfl
theorem lL9_run (b : List Nat) (u v : PV) (M' : Sto) (h : F_law_scan [.str b, .ref q] M = some (.tup [u, v], M')) :
    lL9 (EB s n x2 l x6 x7 (some (.str b)) x9 x10 q x12 nm sg k x17 x18) M = some (.ok (.next (EB s n x2 l x6 x7 (some (.str b)) (some u) x10 q x12 nm sg k x17 (some v))), M') := by
  simp [lL9, EB, h]
theorem lL10_run (b : List Nat) (i j : Nat) (hi : M[i]? = some (scO b j false)) :
    lL10 (EB s n x2 l x6 (some (.int (j : Nat))) (some (.str b)) (some (.ref i)) x10 q x12 nm sg k x17 x18) M = some (.ok (.next (EB s n x2 l x6 (some (.int (j : Nat))) (some (.str b)) (some (.ref i)) x10 q x12 nm sg k x17 x18)), M) := by
  have hi' : M[i]? = some (.ins 1 [("text", .str b), ("at", .int (j : Nat)), ("good", .bl false)]) := hi
  simp [lL10, EB, hi', List.lookup]
theorem lL11_run (u v : PV) (M' : Sto) (hl : l.length ≤ 2000) (h : F_law_scan [.str (l ++ [120]), .ref q] M = some (.tup [u, v], M')) :
    lL11 (EB s n x2 l x6 x7 x8 x9 x10 q x12 nm sg k x17 x18) M = some (.ok (.next (EB s n x2 l x6 x7 x8 (some u) x10 q x12 nm sg k x17 (some v))), M') := by
  have hz : l.length + 1 ≤ sizeLine := szl (by omega)
  simp [lL11, EB, hz, h]
theorem lL12_run (b : List Nat) (i : Nat) (hl : l.length ≤ sizeLine) (hi : M[i]? = some (scO b l.length false)) :
    lL12 (EB s n x2 l x6 x7 x8 (some (.ref i)) x10 q x12 nm sg k x17 x18) M = some (.ok (.next (EB s n x2 l x6 x7 x8 (some (.ref i)) x10 q x12 nm sg k x17 x18)), M) := by
  have hi' : M[i]? = some (.ins 1 [("text", .str b), ("at", .int (l.length : Nat)), ("good", .bl false)]) := hi
  simp [lL12, EB, hi', List.lookup, hl]
theorem lL13_run (hn : nm.length ≤ 100) :
    lL13 (EB s n x2 l x6 x7 x8 x9 x10 q x12 nm sg k x17 x18) M = some (.ok (.next (EB s n x2 l x6 x7 x8 (some (.ref M.length)) x10 q x12 nm sg k x17 x18)), M ++ [scO (nm ++ [63]) 0 true]) := by
  have hz : nm.length + 1 ≤ sizeLine := szl (by omega)
  have hi := init_run M (nm ++ [63])
  rw [set_last] at hi
  simp [lL13, EB, hz, hi]
theorem lL14_run (hn : nameB nm = true) :
    lL14 (EB s n x2 l x6 x7 x8 (some (.ref M.length)) x10 q x12 nm sg k x17 x18) (M ++ [scO (nm ++ [63]) 0 true]) = some (.ok (.next (EB s n x2 l x6 x7 x8 (some (.ref M.length)) x10 q x12 nm sg k x17 x18)), M ++ [scO (nm ++ [63]) nm.length true]) := by
  have h8 := nm_len hn
  have hcap : cap = 600 := rfl
  have hz : nm.length ≤ sizeLine := szl (by omega)
  have hs := nameS_at [] nm [63] hn (seps_q []).ends
  simp only [List.nil_append, List.length_nil, Nat.zero_add] at hs
  have r : F_Scan_take_name [.ref M.length] (M ++ [scO (nm ++ [63]) 0 true]) = some (.str nm, M ++ [scO (nm ++ [63]) nm.length true]) :=
    sc_at M [] (by simp; omega) (by simp only [hs])
  have i1 := scins_at M [] (nm ++ [63]) 0 true
  have i2 := scins_at M [] (nm ++ [63]) nm.length true
  have hin : ∀ M, F_is_name [.str nm] M = some (.bl true, M) := fun M => by
    unfold F_is_name
    simp only [hn]
    rw [if_pos (by omega)]
  simp [lL14, EB, ↓i1, ↓i2, List.lookup, r, hz, hin]
end
end K29
namespace K29
open PySem L2 Mini
noncomputable def lL3 : Fs := (sFor (iRng1 (aCons (f2 vAdd (fC (.int 1)) (fCl 2 F_law_take (aCons (fVar 1) (aCons (fC (.int 4)) aNil)))) aNil)) (.nm 6) bB)
noncomputable def lapF : Fs := sSeq lL1 (sSeq lL2 (sSeq lL3 (sSeq lL4 (sSeq lL5 (sSeq lL6 (sSeq lL7 (sSeq lL8 (sSeq lL9 (sSeq lL10 (sSeq lL11 (sSeq lL12 (sSeq lL13 lL14))))))))))))
theorem lL3_run (r : Mini.Env) (n x : Nat) (M M' : Sto) (h1 : r[1]? = some (some (.ref n))) (hx : x ≤ 1000) (h : F_law_take [.ref n, .int 4] M = some (.int (x : Nat), M')) :
    lL3 r M = loopF ⟨rangeP 0 ((1 + x : Nat) : Int), []⟩ (.nm 6) bB (rangeP 0 ((1 + x : Nat) : Int)) r M' := by
  have hs := small_nat (n := 1 + x) (by omega)
  have e : iRng1 (aCons (f2 vAdd (fC (.int 1)) (fCl 2 F_law_take (aCons (fVar 1) (aCons (fC (.int 4)) aNil)))) aNil) r M = some (.ok ⟨rangeP 0 ((1 + x : Nat) : Int), []⟩, M') := by
    refine rng1_run (N := ((1 + x : Nat) : Int)) ?_ hs
    simp [h1, h]
  unfold lL3 sFor
  rw [e]
  rfl
theorem nm4 : ∀ j : Nat, j < 4 → nameB (names4.getD j []) = true := by decide
theorem scan_at (m : Sto) (t : List Nat) (x : PV) (ps : List PV) (a : Nat) (g : Bool) (found : List PV) (hx : isLs x = true) (hps : rdQ x m = some ps) (ht : t.length ≤ cap) (hl : ps.length ≤ 10000) (h : scanS t ps 0 true [] = some (a, g, found)) :
    F_law_scan [.str t, x] m = some (.tup [.ref m.length, .ref (m.length + 1)], m ++ [scO t a g, .lst found]) := by
  unfold F_law_scan
  simp only [hps, h]
  rw [if_pos ⟨hx, ht, hl⟩]
theorem parts_len : ∀ is : List Item, (partsOf is).length = 2 * is.length
  | [] => rfl
  | i :: is => by simp [partsOf, parts_len is]; omega
end K29
namespace K29
open PySem L2 Mini
/-- the slots at a lap's ends -/
abbrev EL (s n : Nat) (x2 x5 x6 x7 x8 x9 x10 x11 x12 x13 x14 x15 x16 x17 x18 : Option PV) : Mini.Env :=
  [some (.ref s), some (.ref n), x2, none, none, x5, x6, x7, x8, x9, x10, x11, x12, x13, x14, x15, x16, x17, x18]
theorem lap_a (s : Nat) (m : Sto) (A : Bag) (z : Sto) (hc : A.cs.length ≤ 1000) (x2 x5 x6 x7 x8 x9 x10 x11 x12 x13 x14 x15 x16 x17 x18 : Option PV) :
    ∃ (A' : Bag) (is : List Item) (nm sg : List Nat) (k : Nat) (x6' x12' x17' : Option PV), A'.cs = A.cs ∧ nameB nm = true ∧ (∀ i ∈ is, i.ok) ∧ is.length ≤ 4 ∧ (lineI is).length ≤ 84 ∧ 0 < (lineI is).length ∧
      ∀ t : Fs, sSeq lL1 (sSeq lL2 (sSeq lL3 (sSeq lL4 t))) (EL s m.length x2 x5 x6 x7 x8 x9 x10 x11 x12 x13 x14 x15 x16 x17 x18) (m ++ bagO A :: z) =
        t (EB s m.length x2 (lineI is) x6' x7 x8 x9 x10 (m.length + 1 + z.length) x12' nm sg k x17' x18) (SB m A' z (partsOf is ++ [endP]) (duesOf is)) := by
  let A1 := tkB A 4
  let A2 := (wordN A1 2 5).2
  let A3 := tkB A2 40
  have c1 : A1.cs = A.cs := tkB_cs A 4
  have c2 : A2.cs = A.cs := (word_cs A1 2 5).trans c1
  have c3 : A3.cs = A.cs := (tkB_cs A2 40).trans c2
  have t1 := tkN_lt A (n := 4) (by decide)
  have hw' := word_len A1 2 5 (by decide) (by decide)
  have hw : 2 ≤ (wordN A1 2 5).1.length ∧ (wordN A1 2 5).1.length ≤ 12 ∧ ∀ c ∈ (wordN A1 2 5).1, c = 97 ∨ c = 98 ∨ c = 99 := ⟨hw'.1, by omega, hw'.2.2⟩
  have t3 := tkN_lt A2 (n := 40) (by decide)
  have hn := nm4 _ t1
  have e1 := some_at m z A hc names4 (by decide) (by decide)
  have e2 := word_at_ m z A1 (by rw [c1]; exact hc) 2 5 (by decide) (by decide) (by decide)
  have e3 := tk_at m z A2 (by rw [c2]; exact hc) 40 (by decide) (by decide)
  have R1 := (lL1_run s m.length x2 x5 x6 x7 x8 x9 x10 x11 x12 x13 x14 x15 x16 x17 x18 _ _ _ _ (names4.getD (tkN A 4) []) (wordN A1 2 5).1 (tkN A2 40) e1 e2 e3)
  have R2 := lL2_run s m.length x2 x5 x6 x7 x8 x9 x10 x11 x12 (some (.str (names4.getD (tkN A 4) []))) (some (.str (wordN A1 2 5).1)) (some (.int (tkN A2 40 : Nat))) x16 x17 x18 (m ++ bagO (tkB A2 40) :: z)
  rw [qlen] at R2
  have e4 := tk_at m (z ++ [.lst [], .lst []]) A3 (by rw [c3]; exact hc) 4 (by decide) (by decide)
  have t4 := tkN_lt A3 (n := 4) (by decide)
  have st : (m ++ bagO (tkB A2 40) :: z) ++ [.lst [], .lst []] = SB m A3 z [] [] := (SB_is m A3 z [] []).symm
  rw [st] at R2
  have r3 := lL3_run (EB s m.length x2 [] x6 x7 x8 x9 x10 (m.length + 1 + z.length) x12 (names4.getD (tkN A 4) []) (wordN A1 2 5).1 (tkN A2 40) x17 x18) m.length (tkN A3 4) (SB m A3 z [] []) _ rfl (by omega) e4
  have c4 : (tkB A3 4).cs = A.cs := (tkB_cs A3 4).trans c3
  have hlen : (rangeP 0 ((1 + tkN A3 4 : Nat) : Int)).length = 1 + tkN A3 4 := by rw [rangeP_nat]; simp
  obtain ⟨x6', x12', x17', r3'⟩ := bB_loop s m x2 x7 x8 x9 x10 (names4.getD (tkN A 4) []) (wordN A1 2 5).1 (tkN A2 40) x18 z hn hw t3 ⟨rangeP 0 ((1 + tkN A3 4 : Nat) : Int), []⟩ (fun m => ok_nil) (rangeP 0 ((1 + tkN A3 4 : Nat) : Int)) [] x6 x12 x17 (tkB A3 4) [] [] (by rw [c4]; exact hc) (by rw [hlen]; simp; omega) (by rw [hlen]; simp; omega) (by rw [hlen]; simp; omega)
  rw [r3'] at r3
  simp only [List.nil_append] at r3
  rw [hlen] at r3
  have il := items_len (names4.getD (tkN A 4) []) (wordN A1 2 5).1 (tkN A2 40) hn hw t3 (1 + tkN A3 4) (tkB A3 4)
  have iok := items_ok (names4.getD (tkN A 4) []) (wordN A1 2 5).1 (tkN A2 40) hn hw t3 (1 + tkN A3 4) (tkB A3 4)
  have ics := items_cs (names4.getD (tkN A 4) []) (wordN A1 2 5).1 (tkN A2 40) (1 + tkN A3 4) (tkB A3 4)
  generalize itemsB (names4.getD (tkN A 4) []) (wordN A1 2 5).1 (tkN A2 40) (1 + tkN A3 4) (tkB A3 4) = q at r3 il iok ics
  have hpl := parts_len q.1
  have hz : sizeLine = 16777216 := rfl
  have h0 : 0 < (lineI q.1).length := by
    have : 0 < q.1.length := by omega
    cases hq : q.1 with
    | nil => rw [hq] at this; simp at this
    | cons i is => simp only [lineI, List.length_append, List.length_cons]; omega
  refine ⟨q.2, q.1, names4.getD (tkN A 4) [], (wordN A1 2 5).1, tkN A2 40, x6', x12', x17', ics.trans c4, hn, iok, by omega, by omega, h0, fun t => ?_⟩
  refine seq_next R1 (seq_next R2 (seq_next r3 ?_))
  exact seq_next (lL4_run s m.length (m.length + 1 + z.length) x2 (lineI q.1) x6' x7 x8 x9 x10 x12' (names4.getD (tkN A 4) []) (wordN A1 2 5).1 (tkN A2 40) x17' x18 _ _ (chkP m _ z _ _) (appP m _ z _ _ endP (by omega))) rfl
end K29
namespace K29
open PySem L2 Mini
theorem SB_app (m : Sto) (A : Bag) (z : Sto) (P D : List PV) (w : Sto) : SB m A z P D ++ w = m ++ bagO A :: (z ++ [.lst P, .lst D] ++ w) := by simp
theorem SB_len (m : Sto) (A : Bag) (z : Sto) (P D : List PV) : (SB m A z P D).length = m.length + 1 + z.length + 2 := by simp; omega
theorem getP (m : Sto) (A : Bag) (z : Sto) (P D : List PV) (w : Sto) : (SB m A z P D ++ w)[m.length + 1 + z.length]? = some (.lst P) := by
  have e : SB m A z P D ++ w = (m ++ bagO A :: z) ++ (.lst P :: .lst D :: w) := by simp
  rw [e, ← qlen m A z, app_get0]
  rfl
theorem getDu (m : Sto) (A : Bag) (z : Sto) (P D : List PV) (w : Sto) : (SB m A z P D ++ w)[m.length + 1 + z.length + 1]? = some (.lst D) := by
  have e : SB m A z P D ++ w = (m ++ bagO A :: z) ++ (.lst P :: .lst D :: w) := by simp
  rw [e, ← qlen m A z, app_get]
  rfl
theorem rdP (m : Sto) (A : Bag) (z : Sto) (P D : List PV) (w : Sto) : rdQ (.ref (m.length + 1 + z.length)) (SB m A z P D ++ w) = some P := by
  simp only [e_rdQ2, getP]
/-- a scan's objects, behind a store -/
theorem get_a (M : Sto) (a b : Ob) : (M ++ [a, b])[M.length]? = some a := by rw [app_get0]; rfl
theorem get_b (M : Sto) (a b : Ob) : (M ++ [a, b])[M.length + 1]? = some b := by rw [app_get]; rfl
theorem lap_b (s : Nat) (m : Sto) (A : Bag) (z : Sto) (hc : A.cs.length ≤ 1000) (is : List Item) (nm sg : List Nat) (k : Nat) (hn : nameB nm = true) (hi : ∀ i ∈ is, i.ok) (h4 : is.length ≤ 4) (h84 : (lineI is).length ≤ 84) (h0 : 0 < (lineI is).length) (x2 x6 x7 x8 x9 x10 x12 x17 x18 : Option PV) :
    ∃ (A' : Bag) (z' : Sto) (x7' x8' x9' x18' : Option PV), A'.cs = A.cs ∧
      sSeq lL5 (sSeq lL6 (sSeq lL7 (sSeq lL8 (sSeq lL9 (sSeq lL10 (sSeq lL11 (sSeq lL12 (sSeq lL13 lL14)))))))) (EB s m.length x2 (lineI is) x6 x7 x8 x9 x10 (m.length + 1 + z.length) x12 nm sg k x17 x18) (SB m A z (partsOf is ++ [endP]) (duesOf is)) =
        some (.ok (.next (EB s m.length x2 (lineI is) x6 x7' x8' x9' x10 (m.length + 1 + z.length) x12 nm sg k x17 x18')), m ++ bagO A' :: z') := by
  have hcap : cap = 600 := rfl
  have hz : sizeLine = 16777216 := rfl
  have hpl : (partsOf is ++ [endP]).length ≤ 10000 := by have := parts_len is; simp; omega
  generalize hP : partsOf is ++ [endP] = P at hpl
  generalize hq : m.length + 1 + z.length = q
  have hsz : (lineI is).length ≤ sizeLine := by omega
  have rd : ∀ (A : Bag) (w : Sto), rdQ (.ref q) (SB m A z P (duesOf is) ++ w) = some P := fun A w => by rw [← hq]; exact rdP m A z P _ w
  -- the line
  have s1 : scanS (lineI is) P 0 true [] = some ((lineI is).length, true, duesOf is) := by
    have := scan_full is [] [] [] hi
    simpa [hP] using this
  have e5 := scan_at (SB m A z P (duesOf is)) (lineI is) (.ref q) P (lineI is).length true (duesOf is) rfl (by have := rd A []; rwa [List.append_nil] at this) (by omega) hpl s1
  obtain ⟨ds, d1, d2⟩ := dues_D is (SB m A z P (duesOf is) ++ [scO (lineI is) (lineI is).length true, .lst (duesOf is)]) 48
  have tl := tkN_lt A h0
  have e7 := tk_at m (z ++ [.lst P, .lst (duesOf is)] ++ [scO (lineI is) (lineI is).length true, .lst (duesOf is)]) A hc (lineI is).length h0 (by omega)
  rw [← SB_app, ← SB_app] at e7
  -- bent
  obtain ⟨f2, s2⟩ := scan_bent is [] [] (tkN A (lineI is).length) hi tl
  simp only [List.nil_append, List.length_nil, Nat.zero_add, hP] at s2
  have hb : (lineI is).take (tkN A (lineI is).length) ++ 63 :: (lineI is).drop (tkN A (lineI is).length) = (lineI is).take (tkN A (lineI is).length) ++ [63] ++ (lineI is).drop (tkN A (lineI is).length) := by simp
  rw [hb] at s2
  have hbl : ((lineI is).take (tkN A (lineI is).length) ++ [63] ++ (lineI is).drop (tkN A (lineI is).length)).length ≤ 85 := by simp; omega
  have R8 := fun (x8 x9 x18 : Option PV) (M : Sto) => lL8_run s m.length q x2 (lineI is) x6 x8 x9 x10 x12 nm sg k x17 x18 M (tkN A (lineI is).length) (by omega)
  generalize (lineI is).take (tkN A (lineI is).length) ++ [63] ++ (lineI is).drop (tkN A (lineI is).length) = b at s2 hbl R8
  have e9 := scan_at (SB m (tkB A (lineI is).length) z P (duesOf is) ++ [scO (lineI is) (lineI is).length true, .lst (duesOf is)]) b (.ref q) P _ false f2 rfl (rd (tkB A (lineI is).length) _) (by omega) hpl s2
  -- longer
  have s3 := scan_full is [] [120] [] hi
  simp only [List.nil_append, List.length_nil, Nat.zero_add, hP] at s3
  rw [show decide (([120] : List Nat) = []) = false from rfl] at s3
  have e11 := scan_at (SB m (tkB A (lineI is).length) z P (duesOf is) ++ [scO (lineI is) (lineI is).length true, .lst (duesOf is)] ++ [scO b (tkN A (lineI is).length) false, .lst f2]) (lineI is ++ [120]) (.ref q) P _ _ _ rfl (by rw [List.append_assoc]; exact rd (tkB A (lineI is).length) _) (by simp; omega) hpl s3
  have hnm := nm_len hn
  have fin := seq_next (lL5_run s m.length q x2 (lineI is) x6 x7 x8 x9 x10 x12 nm sg k x17 x18 _ _ _ _ e5)
    (seq_next (lL6_run s m.length q x2 (lineI is) x6 x7 x8 x10 x12 nm sg k x17 _ (SB m A z P (duesOf is)).length ((SB m A z P (duesOf is)).length + 1) [] (duesOf is) hsz (get_a _ _ _) (get_b _ _ _) (by rw [← hq]; exact getDu m A z P _ _) ds d1 d2)
    (seq_next (lL7_run s m.length q x2 (lineI is) x6 x7 x8 _ x10 x12 nm sg k x17 _ _ (tkN A (lineI is).length) _ hsz e7)
    (seq_next (R8 x8 _ _ _)
    (seq_next (lL9_run s m.length q x2 (lineI is) x6 _ _ x10 x12 nm sg k x17 _ _ b _ _ _ e9)
    (seq_next (lL10_run s m.length q x2 (lineI is) x6 x10 x12 nm sg k x17 _ _ b _ _ (get_a _ _ _))
    (seq_next (lL11_run s m.length q x2 (lineI is) x6 _ _ _ x10 x12 nm sg k x17 _ _ _ _ _ (by omega) e11)
    (seq_next (lL12_run s m.length q x2 (lineI is) x6 _ _ x10 x12 nm sg k x17 _ _ (lineI is ++ [120]) _ hsz (get_a _ _ _))
    (seq_next (lL13_run s m.length q x2 (lineI is) x6 _ _ _ x10 x12 nm sg k x17 _ _ (by omega))
      (lL14_run s m.length q x2 (lineI is) x6 _ _ x10 x12 nm sg k x17 _ _ hn)))))))))
  have E : ∀ w1 w2 w3 w4 : Sto, SB m (tkB A (lineI is).length) z P (duesOf is) ++ w1 ++ w2 ++ w3 ++ w4 = m ++ bagO (tkB A (lineI is).length) :: (z ++ [.lst P, .lst (duesOf is)] ++ (w1 ++ w2 ++ w3 ++ w4)) := fun w1 w2 w3 w4 => by simp
  rw [E] at fin
  exact ⟨_, _, _, _, _, _, tkB_cs _ _, fin⟩
theorem lap_run (s : Nat) (m : Sto) (A : Bag) (z : Sto) (hc : A.cs.length ≤ 1000) (x2 x5 x6 x7 x8 x9 x10 x11 x12 x13 x14 x15 x16 x17 x18 : Option PV) :
    ∃ (A' : Bag) (z' : Sto) (y5 y6 y7 y8 y9 y10 y11 y12 y13 y14 y15 y16 y17 y18 : Option PV), A'.cs = A.cs ∧
      lapF (EL s m.length x2 x5 x6 x7 x8 x9 x10 x11 x12 x13 x14 x15 x16 x17 x18) (m ++ bagO A :: z) = some (.ok (.next (EL s m.length x2 y5 y6 y7 y8 y9 y10 y11 y12 y13 y14 y15 y16 y17 y18)), m ++ bagO A' :: z') := by
  obtain ⟨A', is, nm, sg, k, x6', x12', x17', hcs, hn, hi, h4, h84, h0, ha⟩ := lap_a s m A z hc x2 x5 x6 x7 x8 x9 x10 x11 x12 x13 x14 x15 x16 x17 x18
  obtain ⟨A2, z', x7', x8', x9', x18', hcs2, hb⟩ := lap_b s m A' z (by rw [hcs]; exact hc) is nm sg k hn hi h4 h84 h0 x2 x6' x7 x8 x9 x10 x12' x17' x18
  exact ⟨A2, z', _, _, _, _, _, _, _, _, _, _, _, _, _, _, hcs2.trans hcs, (ha _).trans hb⟩
/-- eight laps -/
theorem laps_run (s : Nat) (m : Sto) (src : Src) (hsrc : ∀ m, src.ok m) : ∀ (xs : List PV) (A : Bag) (z : Sto) (hc : A.cs.length ≤ 1000) (x2 x5 x6 x7 x8 x9 x10 x11 x12 x13 x14 x15 x16 x17 x18 : Option PV),
    ∃ (A' : Bag) (z' : Sto) (y2 y5 y6 y7 y8 y9 y10 y11 y12 y13 y14 y15 y16 y17 y18 : Option PV), A'.cs = A.cs ∧
      loopF src (.nm 2) lapF xs (EL s m.length x2 x5 x6 x7 x8 x9 x10 x11 x12 x13 x14 x15 x16 x17 x18) (m ++ bagO A :: z) = some (.ok (.next (EL s m.length y2 y5 y6 y7 y8 y9 y10 y11 y12 y13 y14 y15 y16 y17 y18)), m ++ bagO A' :: z')
  | [], A, z, hc, x2, x5, x6, x7, x8, x9, x10, x11, x12, x13, x14, x15, x16, x17, x18 => ⟨A, z, _, _, _, _, _, _, _, _, _, _, _, _, _, _, _, rfl, by rw [loopF_0 (hsrc _)]⟩
  | x :: xs, A, z, hc, x2, x5, x6, x7, x8, x9, x10, x11, x12, x13, x14, x15, x16, x17, x18 => by
    obtain ⟨A1, z1, y5, y6, y7, y8, y9, y10, y11, y12, y13, y14, y15, y16, y17, y18, h1, h2⟩ := lap_run s m A z hc (some x) x5 x6 x7 x8 x9 x10 x11 x12 x13 x14 x15 x16 x17 x18
    obtain ⟨A2, z2, w2, w5, w6, w7, w8, w9, w10, w11, w12, w13, w14, w15, w16, w17, w18, h3, h4⟩ := laps_run s m src hsrc xs A1 z1 (by rw [h1]; exact hc) (some x) y5 y6 y7 y8 y9 y10 y11 y12 y13 y14 y15 y16 y17 y18
    refine ⟨A2, z2, w2, w5, w6, w7, w8, w9, w10, w11, w12, w13, w14, w15, w16, w17, w18, h3.trans h1, ?_⟩
    rw [loopF_e (hsrc _)]
    simp only [e_put]
    rw [show (EL s m.length x2 x5 x6 x7 x8 x9 x10 x11 x12 x13 x14 x15 x16 x17 x18).set 2 (some x) = EL s m.length (some x) x5 x6 x7 x8 x9 x10 x11 x12 x13 x14 x15 x16 x17 x18 from rfl, h2]
    simp only [Res.bind]
    exact h4
end K29
namespace K29
open PySem L2 Mini
/-! ### the words of lines -/
noncomputable def uW1 : Fs := (sAsg (.nm 10) (fBm "str" vSplit (fVar 5) (aCons (fC (.str [32])) aNil)))
noncomputable def uW2 : Fs := (sAsg (.nm 11) (fAlloc (lDisp (aCons (fTup (aCons (fC (.str [119, 111, 114, 100])) (aCons (f2 vIx (fVar 10) (fC (.int 0))) aNil))) aNil))))
noncomputable def uB : Fs := (sDrop (fBm "list" vAppend (fVar 11) (aCons (fTup (aCons (fC (.str [119, 111, 114, 100])) (aCons (f2 vAdd (fC (.str [32])) (fVar 12)) aNil))) aNil)))
noncomputable def uW3 : Fs := (sFor (iAny (fSl (fVar 10) (oSome (fC (.int 1))) oNone)) (.nm 12) uB)
noncomputable def uW4 : Fs := (sAsg (.tp [(.nm 9), (.nm 18)]) (fCl 2 F_law_scan (aCons (fVar 5) (aCons (f2 vAdd (fVar 11) (fLst (lDisp (aCons (fTup (aCons (fC (.str [101, 110, 100])) (aCons (fC .non) aNil))) aNil)))) aNil))))
noncomputable def uW5 : Fs := (sIf (fOrT (fNotT (fTst (f1 (vFl 1 "good") (fVar 9)))) (fOrT (fTst (f2 vNe (f1 (vFl 1 "at") (fVar 9)) (fBlt vLen (aCons (fVar 5) aNil)))) (fTst (f2 vNe (fVar 18) (fLst (lDisp aNil)))))) (sRet (fC (.bl false))) sNil)
noncomputable def uF : Fs := sSeq uW1 (sSeq uW2 (sSeq uW3 (sSeq uW4 uW5)))
abbrev EU (x0 x1 x2 x3 x4 : Option PV) (l : List Nat) (x6 x7 x8 x9 x10 x11 x12 x13 x14 x15 x16 x17 x18 : Option PV) : Mini.Env :=
  [x0, x1, x2, x3, x4, some (.str l), x6, x7, x8, x9, x10, x11, x12, x13, x14, x15, x16, x17, x18]
section
variable (x0 x1 x2 x3 x4 : Option PV) (l : List Nat) (x6 x7 x8 x9 x10 x11 x12 x13 x14 x15 x16 x17 x18 : Option PV) (M : Sto)
theorem uW1_run (hl : l.length ≤ 500) : uW1 (EU x0 x1 x2 x3 x4 l x6 x7 x8 x9 x10 x11 x12 x13 x14 x15 x16 x17 x18) M = some (.ok (.next (EU x0 x1 x2 x3 x4 l x6 x7 x8 x9 (some (.lst ((TL.spl [32] 0 [] l).map PV.str))) x11 x12 x13 x14 x15 x16 x17 x18)), M) := by
  have hz : sizeLine = 16777216 := rfl
  have h : l.length + 2 ≤ sizeLine := by omega
  simp [uW1, EU, vSplit, h, chkT, tyN]
theorem uW2_run (w0 : List Nat) (ws : List (List Nat)) : uW2 (EU x0 x1 x2 x3 x4 l x6 x7 x8 x9 (some (.lst ((w0 :: ws).map PV.str))) x11 x12 x13 x14 x15 x16 x17 x18) M = some (.ok (.next (EU x0 x1 x2 x3 x4 l x6 x7 x8 x9 (some (.lst ((w0 :: ws).map PV.str))) (some (.ref M.length)) x12 x13 x14 x15 x16 x17 x18)), M ++ [.lst [wP w0]]) := by
  have a : atI (PV.str w0 :: ws.map PV.str) 0 = some (.str w0) := at_nat _ 0
  simp [uW2, EU, a, tup_small, wP, sWord]
theorem uB_run (n : Nat) (w : List Nat) (P : List PV) (hn : n = M.length) (hw : w.length ≤ 1000) (hP : P.length ≤ 1000) : uB (EU x0 x1 x2 x3 x4 l x6 x7 x8 x9 x10 (some (.ref n)) (some (.str w)) x13 x14 x15 x16 x17 x18) (M ++ [.lst P]) = some (.ok (.next (EU x0 x1 x2 x3 x4 l x6 x7 x8 x9 x10 (some (.ref n)) (some (.str w)) x13 x14 x15 x16 x17 x18)), M ++ [.lst (P ++ [wP (32 :: w)])]) := by
  have hz : sizeLine = 16777216 := rfl
  have h1 : chkT "list" (.ref n) (M ++ [.lst P]) = true := chk_z M [.lst P] 0 (by omega) P rfl
  have h2 : vAppend (.ref n) [.tup [.str [119, 111, 114, 100], .str (32 :: w)]] (M ++ [.lst P]) = some (.non, M ++ [.lst (P ++ [wP (32 :: w)])]) := app_z M [.lst P] 0 (by omega) P _ rfl (by omega)
  have h3 : 1 + w.length ≤ sizeLine := by omega
  simp [uB, EU, h1, tup_small, h3, h2]
theorem uB_loop (n : Nat) (hn : n = M.length) (src : Src) (hsrc : ∀ m, src.ok m) : ∀ (ws : List (List Nat)) (P : List PV) (x12 : Option PV), (∀ w ∈ ws, w.length ≤ 1000) → P.length + ws.length ≤ 1000 → ∃ y12,
    loopF src (.nm 12) uB (ws.map PV.str) (EU x0 x1 x2 x3 x4 l x6 x7 x8 x9 x10 (some (.ref n)) x12 x13 x14 x15 x16 x17 x18) (M ++ [.lst P]) = some (.ok (.next (EU x0 x1 x2 x3 x4 l x6 x7 x8 x9 x10 (some (.ref n)) y12 x13 x14 x15 x16 x17 x18)), M ++ [.lst (P ++ ws.map fun w => wP (32 :: w))])
  | [], P, x12, h1, h2 => ⟨x12, by rw [List.map_nil, loopF_0 (hsrc _)]; simp⟩
  | w :: ws, P, x12, h1, h2 => by
    simp only [List.length_cons] at h2
    obtain ⟨y12, ih⟩ := uB_loop n hn src hsrc ws (P ++ [wP (32 :: w)]) (some (.str w)) (fun v hv => h1 v (by simp [hv])) (by simp; omega)
    refine ⟨y12, ?_⟩
    rw [List.map_cons, loopF_e (hsrc _)]
    simp only [e_put]
    rw [show (EU x0 x1 x2 x3 x4 l x6 x7 x8 x9 x10 (some (.ref n)) x12 x13 x14 x15 x16 x17 x18).set 12 (some (.str w)) = EU x0 x1 x2 x3 x4 l x6 x7 x8 x9 x10 (some (.ref n)) (some (.str w)) x13 x14 x15 x16 x17 x18 from rfl, uB_run x0 x1 x2 x3 x4 l x6 x7 x8 x9 x10 x13 x14 x15 x16 x17 x18 M n w P hn (h1 w (by simp)) (by omega)]
    simp only [Res.bind]
    rw [ih]
    simp
theorem uW4_run (n : Nat) (P : List PV) (v u : PV) (M' : Sto) (hM : M[n]? = some (.lst P)) (hP : P.length ≤ 1000) (h : F_law_scan [.str l, .lst (P ++ [endP])] M = some (.tup [v, u], M')) :
    uW4 (EU x0 x1 x2 x3 x4 l x6 x7 x8 x9 x10 (some (.ref n)) x12 x13 x14 x15 x16 x17 x18) M = some (.ok (.next (EU x0 x1 x2 x3 x4 l x6 x7 x8 (some v) x10 (some (.ref n)) x12 x13 x14 x15 x16 x17 (some u))), M') := by
  have hz : sizeLine = 16777216 := rfl
  have h1 : P.length + 1 ≤ sizeLine := by omega
  have h' : F_law_scan [.str l, .lst (P ++ [.tup [.str [101, 110, 100], .non]])] M = some (.tup [v, u], M') := h
  simp [uW4, EU, hM, tup_small, h1, h']
theorem uW5_run (i j : Nat) (hl : l.length ≤ 500) (hi : M[i]? = some (scO l l.length true)) (hj : M[j]? = some (.lst [])) :
    uW5 (EU x0 x1 x2 x3 x4 l x6 x7 x8 (some (.ref i)) x10 x11 x12 x13 x14 x15 x16 x17 (some (.ref j))) M = some (.ok (.next (EU x0 x1 x2 x3 x4 l x6 x7 x8 (some (.ref i)) x10 x11 x12 x13 x14 x15 x16 x17 (some (.ref j)))), M) := by
  have hz : sizeLine = 16777216 := rfl
  have hs : l.length ≤ sizeLine := by omega
  have hi' : M[i]? = some (.ins 1 [("text", .str l), ("at", .int (l.length : Nat)), ("good", .bl true)]) := hi
  have hn : vNe (.ref j) (.lst []) M = some (.bl false) := by
    refine ne_same (d := .list []) ?_ ?_ rfl
    · rw [show deepest = 49 + 1 from rfl]; simp only [toD, hj, toDs, Option.map_some]
    · rw [show deepest = 49 + 1 from rfl]; simp only [toD, toDs, Option.map_some]
  simp [uW5, EU, hi', List.lookup, hs, hn]
end
theorem spl_short (s : Nat) (l : List Nat) : ∀ w ∈ TL.spl [s] 0 [] l, w.length ≤ l.length := by
  have key : ∀ (l acc : List Nat), ∀ w ∈ TL.spl [s] 0 acc l, w.length ≤ acc.length + l.length := by
    intro l
    induction l with
    | nil => intro acc w hw; simp [TL.spl] at hw; subst hw; simp
    | cons c l ih =>
      intro acc w hw
      simp only [TL.spl] at hw
      split at hw
      · rw [show ([s] : List Nat).length - 1 = 0 from rfl] at hw
        rcases List.mem_cons.mp hw with rfl | hw
        · simp
        · have := ih [] w hw; simp at this ⊢; omega
      · have := ih _ w hw; simp at this ⊢; omega
  intro w hw
  have := key l [] w hw
  simpa using this
theorem uF_run (x0 x1 x2 x3 x4 : Option PV) (l : List Nat) (x6 x7 x8 x9 x10 x11 x12 x13 x14 x15 x16 x17 x18 : Option PV) (M : Sto) (hl : l.length ≤ 500) :
    ∃ z y9 y10 y11 y12 y18, uF (EU x0 x1 x2 x3 x4 l x6 x7 x8 x9 x10 x11 x12 x13 x14 x15 x16 x17 x18) M = some (.ok (.next (EU x0 x1 x2 x3 x4 l x6 x7 x8 y9 y10 y11 y12 x13 x14 x15 x16 x17 y18)), M ++ z) := by
  obtain ⟨w0, ws, hs, hn, hsc⟩ := scan_line l
  simp only [List.length_cons] at hn
  have hsh := spl_short 32 l
  rw [hs] at hsh
  have r1 := uW1_run x0 x1 x2 x3 x4 l x6 x7 x8 x9 x10 x11 x12 x13 x14 x15 x16 x17 x18 M hl
  rw [hs] at r1
  have r2 := uW2_run x0 x1 x2 x3 x4 l x6 x7 x8 x9 x11 x12 x13 x14 x15 x16 x17 x18 M w0 ws
  obtain ⟨y12, r3⟩ := uB_loop x0 x1 x2 x3 x4 l x6 x7 x8 x9 (some (.lst ((w0 :: ws).map PV.str))) x13 x14 x15 x16 x17 x18 M M.length rfl ⟨ws.map PV.str, []⟩ (fun _ => ok_nil) ws [wP w0] x12 (fun w hw => by have := hsh w (by simp [hw]); omega) (by simp; omega)
  have r3' : uW3 (EU x0 x1 x2 x3 x4 l x6 x7 x8 x9 (some (.lst ((w0 :: ws).map PV.str))) (some (.ref M.length)) x12 x13 x14 x15 x16 x17 x18) (M ++ [.lst [wP w0]]) = some (.ok (.next (EU x0 x1 x2 x3 x4 l x6 x7 x8 x9 (some (.lst ((w0 :: ws).map PV.str))) (some (.ref M.length)) y12 x13 x14 x15 x16 x17 x18)), M ++ [.lst ([wP w0] ++ ws.map fun w => wP (32 :: w))]) := by
    have c : cutL (PV.str w0 :: ws.map PV.str) (some 1) none = ws.map PV.str := cutL_from _ 1
    have e : iAny (fSl (fVar 10) (oSome (fC (.int 1))) oNone) (EU x0 x1 x2 x3 x4 l x6 x7 x8 x9 (some (.lst ((w0 :: ws).map PV.str))) (some (.ref M.length)) x12 x13 x14 x15 x16 x17 x18) (M ++ [.lst [wP w0]]) = some (.ok ⟨ws.map PV.str, []⟩, M ++ [.lst [wP w0]]) := by
      simp [EU, c]
    unfold uW3 sFor
    rw [e]
    exact r3
  have g : (M ++ [.lst ([wP w0] ++ ws.map fun w => wP (32 :: w))])[M.length]? = some (.lst ([wP w0] ++ ws.map fun w => wP (32 :: w))) := by rw [app_get0]; rfl
  have hcap : cap = 600 := rfl
  have r4 := uW4_run x0 x1 x2 x3 x4 l x6 x7 x8 x9 (some (.lst ((w0 :: ws).map PV.str))) y12 x13 x14 x15 x16 x17 x18 _ M.length _ _ _ _ g (by simp; omega) (scan_at _ l _ (wP w0 :: ws.map (fun w => wP (32 :: w)) ++ [endP]) l.length true [] rfl rfl (by omega) (by simp; omega) hsc)
  have r5 := uW5_run x0 x1 x2 x3 x4 l x6 x7 x8 (some (.lst ((w0 :: ws).map PV.str))) (some (.ref M.length)) y12 x13 x14 x15 x16 x17 _ _ _ hl (get_a (M ++ [.lst ([wP w0] ++ ws.map fun w => wP (32 :: w))]) (scO l l.length true) (.lst [])) (get_b _ _ _)
  have := seq_next r1 (seq_next r2 (seq_next r3' (seq_next r4 r5)))
  rw [List.append_assoc] at this
  exact ⟨_, _, _, _, _, _, this⟩
theorem lines_run (x0 x1 x2 x3 x4 x6 x7 x8 x13 x14 x15 x16 x17 : Option PV) (src : Src) (hsrc : ∀ m, src.ok m) : ∀ (ls : List (List Nat)) (M : Sto) (x5 x9 x10 x11 x12 x18 : Option PV), (∀ l ∈ ls, l.length ≤ 500) →
    ∃ z y5 y9 y10 y11 y12 y18, loopF src (.nm 5) uF (ls.map PV.str) [x0, x1, x2, x3, x4, x5, x6, x7, x8, x9, x10, x11, x12, x13, x14, x15, x16, x17, x18] M = some (.ok (.next [x0, x1, x2, x3, x4, y5, x6, x7, x8, y9, y10, y11, y12, x13, x14, x15, x16, x17, y18]), M ++ z)
  | [], M, x5, x9, x10, x11, x12, x18, _ => ⟨[], _, _, _, _, _, _, by rw [List.map_nil, loopF_0 (hsrc _), List.append_nil]⟩
  | l :: ls, M, x5, x9, x10, x11, x12, x18, h => by
    obtain ⟨z, y9, y10, y11, y12, y18, h1⟩ := uF_run x0 x1 x2 x3 x4 l x6 x7 x8 x9 x10 x11 x12 x13 x14 x15 x16 x17 x18 M (h l (by simp))
    obtain ⟨z2, w5, w9, w10, w11, w12, w18, h2⟩ := lines_run x0 x1 x2 x3 x4 x6 x7 x8 x13 x14 x15 x16 x17 src hsrc ls (M ++ z) (some (.str l)) y9 y10 y11 y12 y18 fun k hk => h k (by simp [hk])
    refine ⟨z ++ z2, w5, w9, w10, w11, w12, w18, ?_⟩
    rw [List.map_cons, loopF_e (hsrc _)]
    simp only [e_put]
    rw [show ([x0, x1, x2, x3, x4, x5, x6, x7, x8, x9, x10, x11, x12, x13, x14, x15, x16, x17, x18] : Mini.Env).set 5 (some (.str l)) = EU x0 x1 x2 x3 x4 l x6 x7 x8 x9 x10 x11 x12 x13 x14 x15 x16 x17 x18 from rfl, h1]
    simp only [Res.bind]
    rw [← List.append_assoc]
    exact h2
end K29
namespace K29
open PySem L2 Mini
/-! ### the law -/
def F_law : Fn := fun xs m => match xs with
  | [.ref s] => match m[s]? with
    | some (.rol cs) => match intsOf cs with
      | some _ => some (.bl true, m)
      | none => none
    | _ => none
  | _ => none
def zS1 : Fs := (sAsg (.nm 1) (fCl 1 F_law_bag (aCons (fVar 0) aNil)))
noncomputable def zS2 : Fs := sFor (iRng1 (aCons (fC (.int 8)) aNil)) (.nm 2) lapF
def zS3 : Fs := (sAsg (.nm 3) (fCl 4 F_law_task (aCons (fVar 1) (aCons (fCl 3 F_law_word (aCons (fVar 1) (aCons (fC (.int 3)) (aCons (fC (.int 6)) aNil)))) (aCons (fC (.int 3)) (aCons (fC (.int 3)) aNil))))))
noncomputable def zS4 : Fs := (sAsg (.nm 4) (fCl 2 F_law_texts (aCons (fVar 3) (aCons (fC (.str [103, 111])) aNil))))
noncomputable def zS5 : Fs := (sIf (fTst (f2 vNe (fBlt vList (aCons (fCl 1 F_text_lines (aCons (fCl 1 F_read_text (aCons (fBm "str" vJoin (fC (.str [10])) (aCons (fVar 4) aNil)) aNil)) aNil)) aNil)) (fVar 4))) (sRet (fC (.bl false))) sNil)
noncomputable def zS6 : Fs := sFor (iAny (fVar 4)) (.nm 5) uF
theorem law_is : m_law = sSeq zS1 (sSeq zS2 (sSeq zS3 (sSeq zS4 (sSeq zS5 (sSeq zS6 (sRet (fC (.bl true)))))))) := rfl
/-! the drawn task -/
theorem pairs_lt (L : Nat) (hL : 0 < L) : ∀ (n : Nat) (A : Bag), ∀ q ∈ (pairsB L n A).1, q.1 < L ∧ q.2 < L
  | 0, A => by simp [pairsB]
  | n + 1, A => fun q hq => by
    simp only [pairsB, List.mem_cons] at hq
    rcases hq with rfl | hq
    · exact ⟨tkN_lt A hL, Nat.mod_lt _ hL⟩
    · exact pairs_lt L hL n _ q hq
theorem groups_len : ∀ (n k g : Nat) (A : Bag), (groupsB n k g A).1.length = n
  | 0, k, g, A => rfl
  | n + 1, k, g, A => by simp [groupsB, groups_len n]
theorem drawn_ok (A : Bag) (w : List Nat) (h : 3 ≤ w.length ∧ w.length ≤ 6 ∧ ∀ c ∈ w, c = 97 ∨ c = 98 ∨ c = 99) : Drawn (taskB A w 3 3).1 := by
  have t3 := tkN_lt A (n := 3) (by decide)
  unfold taskB
  simp only
  refine ⟨h.1, h.2.1, h.2.2, pairs_lt _ (by omega) _ _, ?_, ?_, ?_, ?_, ?_⟩
  · show (pairsB w.length (1 + tkN A 3) (tkB A 3)).1 ≠ []
    intro hz
    have := pairs_len w.length (1 + tkN A 3) (tkB A 3)
    rw [hz] at this
    simp at this
    omega
  · show (pairsB w.length (1 + tkN A 3) (tkB A 3)).1.length ≤ 3
    rw [pairs_len]; omega
  · show (groupsB (1 + tkN A 3) 0 0 (pairsB w.length (1 + tkN A 3) (tkB A 3)).2).1.length = (pairsB w.length (1 + tkN A 3) (tkB A 3)).1.length
    rw [groups_len, pairs_len]
  · intro l hl
    have hl : (lastB w.length (groupsB (1 + tkN A 3) 0 0 (pairsB w.length (1 + tkN A 3) (tkB A 3)).2).2).1 = some l := hl
    show l < w.length
    unfold lastB at hl
    split at hl
    · simp only [Option.some.injEq] at hl
      subst hl
      exact tkN_lt _ (by omega)
    · cases hl
  · have := tkN_lt (lastB w.length (groupsB (1 + tkN A 3) 0 0 (pairsB w.length (1 + tkN A 3) (tkB A 3)).2).2).2 (n := 3 + 1) (by decide)
    exact Nat.le_of_lt_succ this
theorem task_at (m z : Sto) (A : Bag) (hc : A.cs.length ≤ 1000) (w : List Nat) (h0 : 3 ≤ w.length) (h1 : w.length ≤ 6) : F_law_task [.ref m.length, .str w, .int 3, .int 3] (m ++ bagO A :: z) = some (taskP (taskB A w 3 3).1, m ++ bagO (taskB A w 3 3).2 :: z) := by
  have hcap : cap = 600 := rfl
  refine bg_at m z hc ?_
  have : 2 ≤ w.length ∧ w.length ≤ cap ∧ (0 : Int) < 3 ∧ (3 : Int) ≤ 1000 ∧ (0 : Int) ≤ 3 ∧ (3 : Int) ≤ 1000 := by omega
  simp only [this, and_self, if_true]
  rfl
theorem lines_D (m : Sto) : ∀ L : List (List Nat), toDs m 49 (L.map PV.str) = some (L.map fun l => .str (mkS l)) ∧ PyData.plainAll (L.map fun l => PyData.str (mkS l)) = true
  | [] => by simp [toDs, PyData.plainAll]
  | l :: L => by simp [toDs, toD_str, lines_D m L, PyData.plainAll, PyData.plain]
theorem zS5_run (r : Mini.Env) (M : Sto) (T : Task) (hT : Drawn T) (hr : r[4]? = some (some (linesP (textsN T [103, 111])))) : zS5 r M = some (.ok (.next r), M) := by
  obtain ⟨hl, v, h1, h2⟩ := back_run hT [103, 111] (by decide)
  obtain ⟨o1, o2, o3⟩ := okl_texts hT [103, 111] (by decide)
  generalize textsN T [103, 111] = L at *
  have lp : linesP L = .lst (L.map PV.str) := rfl
  have hj : vJoin (.str [10]) [linesP L] M = some (.str (TL.joinL [10] L), M) := by
    have hs : (L.map (·.length)).sum + L.length ≤ 16777216 := by
      have : ∀ K : List (List Nat), (∀ l ∈ K, l.length ≤ 60) → (K.map (·.length)).sum ≤ K.length * 60 := by
        intro K
        induction K with
        | nil => intro _; simp
        | cons k K ih =>
          intro h
          have a := h k (by simp)
          have b := ih fun l hl => h l (by simp [hl])
          simp only [List.map_cons, List.sum_cons, List.length_cons]
          omega
      have := this L fun l hl => (o1 l hl).len
      omega
    simp [vJoin, lp, strsOf_map, hs]
  have hne : vNe (linesP L) (linesP L) M = some (.bl false) := by
    have e : toD M deepest (linesP L) = some (.list (L.map fun l => .str (mkS l))) := by
      rw [lp, show deepest = 49 + 1 from rfl]
      simp only [toD, lines_D, Option.map_some]
    exact ne_same e e (by simp [PyData.plain, lines_D M L])
  have hlist : vList [linesP L] M = some (linesP L) := rfl
  simp [zS5, hr, chkT, hj, h1, h2, hlist, hne]
theorem sim_law : Sim 19 1 m_law F_law := fun xs m x m2 hl hF => by
  unfold F_law at hF
  split at hF
  · rename_i s
    split at hF
    · rename_i cs hcs
      split at hF
      · rename_i c hc
        simp only [Option.some.injEq, Prod.mk.injEq] at hF
        obtain ⟨rfl, rfl⟩ := hF
        have hb : F_law_bag [.ref s] m = some (.ref m.length, m ++ [bagO ⟨0, 1234567891, 0, (c.take 63).map fun i => if i < 0 then -i else i⟩]) := by
          unfold F_law_bag
          simp only [hcs, hc]
        have hcl : ((c.take 63).map fun i : Int => if i < 0 then -i else i).length ≤ 1000 := by simp; omega
        generalize hA : (⟨0, 1234567891, 0, (c.take 63).map fun i => if i < 0 then -i else i⟩ : Bag) = A at hb
        have hcA : A.cs.length ≤ 1000 := by rw [← hA]; exact hcl
        have z1 : zS1 (startE 19 [.ref s]) m = some (.ok (.next (EL s m.length none none none none none none none none none none none none none none none)), m ++ [bagO A]) := by
          simp [zS1, startE, hb, EL, List.replicate]
        obtain ⟨A1, z', y2, y5, y6, y7, y8, y9, y10, y11, y12, y13, y14, y15, y16, y17, y18, c1, l1⟩ := laps_run s m ⟨rangeP 0 8, []⟩ (fun _ => ok_nil) (rangeP 0 8) A [] hcA none none none none none none none none none none none none none none none
        have z2 : zS2 (EL s m.length none none none none none none none none none none none none none none none) (m ++ [bagO A]) = some (.ok (.next (EL s m.length y2 y5 y6 y7 y8 y9 y10 y11 y12 y13 y14 y15 y16 y17 y18)), m ++ bagO A1 :: z') := by
          have e : iRng1 (aCons (fC (.int 8)) aNil) (EL s m.length none none none none none none none none none none none none none none none) (m ++ [bagO A]) = some (.ok ⟨rangeP 0 8, []⟩, m ++ [bagO A]) := rng1_run (N := 8) rfl (by decide)
          unfold zS2 sFor
          rw [e]
          exact l1
        have hc1 : A1.cs.length ≤ 1000 := by rw [c1]; exact hcA
        have hw := word_len A1 3 6 (by decide) (by decide)
        have e3 := word_at_ m z' A1 hc1 3 6 (by decide) (by decide) (by decide)
        have hcw : (wordN A1 3 6).2.cs.length ≤ 1000 := by rw [word_cs]; exact hc1
        have e4 := task_at m z' (wordN A1 3 6).2 hcw (wordN A1 3 6).1 hw.1 hw.2.1
        have hD := drawn_ok (wordN A1 3 6).2 (wordN A1 3 6).1 hw
        generalize taskB (wordN A1 3 6).2 (wordN A1 3 6).1 3 3 = TB at e4 hD
        have e3' : F_law_word [.ref m.length, .int 3, .int 6] (m ++ bagO A1 :: z') = some (.str (wordN A1 3 6).1, m ++ bagO (wordN A1 3 6).2 :: z') := e3
        have z3 : zS3 (EL s m.length y2 y5 y6 y7 y8 y9 y10 y11 y12 y13 y14 y15 y16 y17 y18) (m ++ bagO A1 :: z') = some (.ok (.next [some (.ref s), some (.ref m.length), y2, some (taskP TB.1), none, y5, y6, y7, y8, y9, y10, y11, y12, y13, y14, y15, y16, y17, y18]), m ++ bagO TB.2 :: z') := by
          simp [zS3, EL, e3', e4]
        have hcap : cap = 600 := rfl
        have e5 := texts_run hD.ok (nm := [103, 111]) (by simp; omega) (m ++ bagO TB.2 :: z')
        have z4 : zS4 [some (.ref s), some (.ref m.length), y2, some (taskP TB.1), none, y5, y6, y7, y8, y9, y10, y11, y12, y13, y14, y15, y16, y17, y18] (m ++ bagO TB.2 :: z') = some (.ok (.next [some (.ref s), some (.ref m.length), y2, some (taskP TB.1), some (linesP (textsN TB.1 [103, 111])), y5, y6, y7, y8, y9, y10, y11, y12, y13, y14, y15, y16, y17, y18]), m ++ bagO TB.2 :: z') := by
          simp [zS4, e5]
        have z5 := zS5_run [some (.ref s), some (.ref m.length), y2, some (taskP TB.1), some (linesP (textsN TB.1 [103, 111])), y5, y6, y7, y8, y9, y10, y11, y12, y13, y14, y15, y16, y17, y18] (m ++ bagO TB.2 :: z') TB.1 hD rfl
        obtain ⟨o1, o2, o3⟩ := okl_texts hD [103, 111] (by decide)
        obtain ⟨z6, w5, w9, w10, w11, w12, w18, l6⟩ := lines_run (some (.ref s)) (some (.ref m.length)) y2 (some (taskP TB.1)) (some (linesP (textsN TB.1 [103, 111]))) y6 y7 y8 y13 y14 y15 y16 y17 ⟨(textsN TB.1 [103, 111]).map PV.str, []⟩ (fun _ => ok_nil) (textsN TB.1 [103, 111]) (m ++ bagO TB.2 :: z') y5 y9 y10 y11 y12 y18 fun l hl => by have := (o1 l hl).len; omega
        have z6' : zS6 [some (.ref s), some (.ref m.length), y2, some (taskP TB.1), some (linesP (textsN TB.1 [103, 111])), y5, y6, y7, y8, y9, y10, y11, y12, y13, y14, y15, y16, y17, y18] (m ++ bagO TB.2 :: z') = some (.ok (.next [some (.ref s), some (.ref m.length), y2, some (taskP TB.1), some (linesP (textsN TB.1 [103, 111])), w5, y6, y7, y8, w9, w10, w11, w12, y13, y14, y15, y16, y17, w18]), m ++ bagO TB.2 :: z' ++ z6) := by
          unfold zS6 sFor
          exact l6
        have fin := seq_next z1 (seq_next z2 (seq_next z3 (seq_next z4 (seq_next z5 (seq_next (t := sRet (fC (.bl true))) z6' rfl)))))
        rw [← law_is] at fin
        rw [List.append_assoc] at fin
        refine ⟨.ret (.bl true), _, .bl true, m.length, fin, .inl rfl, ?_, ⟨Nat.le_refl _, fun i o hi ho => ?_⟩, frz_bl _ _ _ _⟩
        · rw [List.take_left' rfl]
        · rw [List.getElem?_append_left hi] at ho
          exact .inl ho
      · cases hF
    · cases hF
  · cases hF
end K29
namespace K29
open PySem L2 Mini
theorem nameB_c {z : List Nat} {c : Nat} (h : z.head? = some c) : nameB z = (decide (1 ≤ z.length) && decide (z.length ≤ 8) && isL c && z.all isAN && !decide (z ∈ RES)) := by
  unfold nameB
  cases z with
  | nil => cases h
  | cons d z => simp only [List.head?_cons, Option.some.injEq] at h; subst h; rfl
theorem sim_is_name : Sim 2 1 m_is_name F_is_name := Sim.pure fun xs m x m2 hl hF => by
  unfold F_is_name at hF
  split at hF
  · rename_i z
    split at hF
    · rename_i hz
      simp only [Option.some.injEq, Prod.mk.injEq] at hF
      obtain ⟨rfl, rfl⟩ := hF
      refine ⟨rfl, ?_, rfl⟩
      have h1 : z.length ≤ sizeLine := Nat.le_trans hz cap_line
      have hi : ∀ m, vIsInst [.str z, .ty "str"] m = some (.bl true) := fun m => by simp [vIsInst, tyN, show kitB "str" "str" = some true by decide +kernel]
      have lp := all_loop z none [] m (LET ++ DIG) h1 1 [some (.str z), none] (fun _ => rfl) (by simp) (f2 vIn (fVar 1) (f2 vAdd (fC c_LETTERS) (fC c_DIGITS))) (fun c => by simp [wipeE, c_LETTERS, c_DIGITS])
      have hall := v_all (fun c => decide (c ∈ LET ++ DIG)) z m
      have hall' : (z.all fun c => decide (c ∈ LET ++ DIG)) = z.all isAN := by
        congr 1
        funext c
        exact (isAN_mem c).symm
      rw [hall'] at hall
      simp only [List.mem_append, Bool.decide_or] at hall
      have hres : ∀ m, vNotIn (.str z) c_RESERVED m = some (.bl (!decide (z ∈ RES))) := fun m => notIn_strs z RES m
      by_cases h8 : 1 ≤ z.length ∧ z.length ≤ 8
      · have hne : z ≠ [] := fun e => by rw [e] at h8; simp at h8
        obtain ⟨c, hh, hat⟩ := head_of hne
        have h81 : (1 : Int) ≤ (z.length : Nat) := by omega
        have h82 : ((z.length : Nat) : Int) ≤ 8 := by omega
        rw [nameB_c hh]
        have hLn : ∀ m, vNotIn (.str [c]) c_LETTERS m = some (.bl (!decide (c ∈ LET))) := fun m => notIn_sign c LET m
        by_cases hL : c ∈ LET
        · have hLb : isL c = true := by simp [isL, hL]
          cases hA : z.all isAN with
          | true =>
            rw [hA] at hall
            simp only [h8.1, h8.2, decide_true, Bool.true_and, hLb]
            simp [m_is_name, startE, lp, hall, hat, hi, h1, c_MOST_SIGNS, h81, h82, hLn, hL, hres]
          | false =>
            rw [hA] at hall
            simp only [h8.1, h8.2, decide_true, Bool.true_and, hLb]
            simp [m_is_name, startE, lp, hall, hat, hi, h1, c_MOST_SIGNS, h81, h82, hLn, hL, hres]
        · have hLb : isL c = false := by simp [isL, hL]
          simp only [h8.1, h8.2, decide_true, Bool.true_and, hLb, Bool.false_and]
          simp [m_is_name, startE, hat, hi, h1, c_MOST_SIGNS, h81, h82, hLn, hL]
      · have e : (decide (1 ≤ z.length) && decide (z.length ≤ 8)) = false := by
          by_cases h1 : 1 ≤ z.length
          · have : ¬ z.length ≤ 8 := fun h => h8 ⟨h1, h⟩
            simp [this]
          · simp [h1]
        unfold nameB
        simp only [e, Bool.false_and]
        by_cases h0 : 1 ≤ z.length
        · have h81 : (1 : Int) ≤ (z.length : Nat) := by omega
          have h82 : ¬ ((z.length : Nat) : Int) ≤ 8 := by omega
          simp [m_is_name, startE, hi, h1, c_MOST_SIGNS, h81, h82]
        · have h81 : ¬ (1 : Int) ≤ (z.length : Nat) := by omega
          simp [m_is_name, startE, hi, h1, c_MOST_SIGNS, h81]
    · cases hF
  · cases hF
end K29
namespace Mini
open PySem L2
/-! ### what the module's top has left, as values -/
/-! a value of the module, looked at in the written part -/
mutual
def cstB (p : Par) : PV → Value → Bool
  | .non, .none => true
  | .bl b, .bool c => b == c
  | .int i, .int j _ => decide (i = j)
  | .str x, .str y _ => decide (mkS x = y)
  | .glo k, .ref a => decide (a = p.FA k)
  | .ty n, .type m => decide (n = m)
  | .tup xs, .ref a => match p.K.lookup a with
    | some ⟨.type c, _, .seq its _, _⟩ => decide (c = "tuple") && (decide (its.size ≤ sizeLine) && cstsB p xs its.toList)
    | _ => false
  | _, _ => false
def cstsB (p : Par) : List PV → List Value → Bool
  | [], [] => true
  | x :: xs, u :: us => cstB p x u && cstsB p xs us
  | _, _ => false
end
mutual
theorem cstB_ok {p : Par} : ∀ {x : PV} {u : Value}, cstB p x u = true → ∃ v, RelV v u ∧ ∀ io H, RV p io H x v
  | .non, u, h => by cases u <;> simp [cstB] at h; exact ⟨.non, rfl, fun _ _ => by simp [RV]⟩
  | .bl b, u, h => by
    cases u <;> simp [cstB] at h
    subst h
    exact ⟨.bl b, rfl, fun _ _ => by simp [RV]⟩
  | .int i, u, h => by
    cases u <;> simp [cstB] at h
    subst h
    exact ⟨.int i, ⟨_, rfl⟩, fun _ _ => by simp [RV]⟩
  | .str x, u, h => by
    cases u <;> simp [cstB] at h
    subst h
    exact ⟨.str (mkS x), ⟨_, rfl⟩, fun _ _ => by simp [RV]⟩
  | .glo k, u, h => by
    cases u <;> simp [cstB] at h
    subst h
    exact ⟨.ref (p.FA k), rfl, fun _ _ => by simp [RV]⟩
  | .ty n, u, h => by
    cases u <;> simp [cstB] at h
    subst h
    exact ⟨.ty n, rfl, fun _ _ => by simp [RV]⟩
  | .tup xs, u, h => by
    cases u with
    | ref a =>
      simp only [cstB] at h
      cases q : p.K.lookup a with
      | none => rw [q] at h; cases h
      | some o =>
        obtain ⟨oc, od, dt, osl⟩ := o
        rw [q] at h
        cases oc with
        | type c =>
          cases dt with
          | seq its n =>
            simp only [Bool.and_eq_true, decide_eq_true_eq] at h
            obtain ⟨rfl, h2, h3⟩ := h
            obtain ⟨vs, r1, r2⟩ := cstsB_ok h3
            refine ⟨.ref a, rfl, fun io H => ?_⟩
            simp only [RV]
            exact ⟨a, vs, rfl, .inr ⟨_, its, n, q, rfl, rfl, h2, r1⟩, r2 io H⟩
          | _ => cases h
        | _ => cases dt <;> cases h
    | _ => simp [cstB] at h
  | .lst xs, u, h => by cases u <;> simp [cstB] at h
  | .dct ks xs, u, h => by cases u <;> simp [cstB] at h
  | .ref n, u, h => by cases u <;> simp [cstB] at h
theorem cstsB_ok {p : Par} : ∀ {xs : List PV} {us : List Value}, cstsB p xs us = true → ∃ vs, Vals vs us ∧ ∀ io H, RVs p io H xs vs
  | [], us, h => by
    cases us with
    | nil => exact ⟨[], .nil, fun _ _ => by simp [RVs]⟩
    | cons _ _ => simp [cstsB] at h
  | x :: xs, us, h => by
    cases us with
    | nil => simp [cstsB] at h
    | cons u us =>
      simp only [cstsB, Bool.and_eq_true] at h
      obtain ⟨v, r1, r2⟩ := cstB_ok h.1
      obtain ⟨vs, r3, r4⟩ := cstsB_ok h.2
      exact ⟨v :: vs, .cons r1 r3, fun io H => by simp only [RVs]; exact ⟨v, vs, rfl, r2 io H, r4 io H⟩⟩
end
/-- the module's name x is the value c -/
def CstAt (p : Par) (mg : Str → Option Value) (x : Str) (c : PV) : Prop := ∃ u v, mg x = some u ∧ RelV v u ∧ ∀ io H, RV p io H c v
def cB (p : Par) (x : Str) (c : PV) : Bool := match PySem.W.nsIn p.K mainGlobals x with
  | some (some u) => cstB p c u
  | _ => false
theorem cB_ok {p : Par} {h : Heap} {mg : Str → Option Value} {x : Str} {c : PV} (X : p.K.In h) (G : h.Ns mainGlobals mg) (e : cB p x c = true) : CstAt p mg x c := by
  unfold cB at e
  cases q : PySem.W.nsIn p.K mainGlobals x with
  | none => rw [q] at e; cases e
  | some o =>
    rw [q] at e
    cases o with
    | none => cases e
    | some u =>
      obtain ⟨v, r1, r2⟩ := cstB_ok e
      exact ⟨u, v, PySem.W.mg_of X G q, r1, r2⟩
theorem r_cst {p : Par} {W : WX} {X : Cx} {pos : Pos} {x : Str} {c : PV} (hg : Gl X x) (h : CstAt p X.mg x c) (hd : (x == ("__debug__" : Str)) = false := by decide) : PE X (.Name x pos) (tE p W (fC c)) := by
  obtain ⟨u, v, h1, h2, h3⟩ := h
  exact r_glob hg h1 h2 h3 hd
/-- the module's name x is a dict with text keys -/
def DctAt (p : Par) (w : World) (mg : Str → Option Value) (x : Str) (kvs : List (List Nat × PV)) : Prop :=
  ∃ a es n, mg x = some (.ref a) ∧ p.K.lookup a = some ⟨.type "dict", none, .dict es n, #[]⟩ ∧ PySem.W.KeysLit w.params es.toList ∧ ∀ q ∈ kvs, ∃ u v, PySem.W.nsIn p.K a (mkS q.1) = some (some u) ∧ RelV v u ∧ ∀ io H, RV p io H q.2 v
def dB (p : Par) (x : Str) (kvs : List (List Nat × PV)) : Bool := kvs.all fun q => match PySem.W.nsIn p.K (He.ga p.K x) (mkS q.1) with
  | some (some u) => cstB p q.2 u
  | _ => false
theorem dB_ok {p : Par} {w : World} {mg : Str → Option Value} {x : Str} {kvs : List (List Nat × PV)} (hm : mg x = some (.ref (He.ga p.K x))) (hk : ∃ es n, KDict p.K w (He.ga p.K x) es n) (e : dB p x kvs = true) : DctAt p w mg x kvs := by
  obtain ⟨es, n, D⟩ := hk
  refine ⟨_, es, n, hm, D.at_, D.lit, fun q hq => ?_⟩
  have h := List.all_eq_true.mp e q hq
  cases e2 : PySem.W.nsIn p.K (He.ga p.K x) (mkS q.1) with
  | none => rw [e2] at h; cases h
  | some r =>
    rw [e2] at h
    cases r with
    | none => cases h
    | some u =>
      obtain ⟨v, r1, r2⟩ := cstB_ok h
      exact ⟨u, v, rfl, r1, r2⟩
theorem r_dcst {p : Par} {W : WX} {X : Cx} {pos q : Pos} {b : Expr} {fb : Fe} {x : Str} {kvs : List (List Nat × PV)} {vd : PV → Sto → Option PV} (g : Good p W X) (hg : Gl X x) (h : DctAt p X.w X.mg x kvs) (hv : ∀ y m z, vd y m = some z → ∃ k, y = .str k ∧ (k, z) ∈ kvs)
    (hb : PE X b (tE p W fb)) (hd : (x == ("__debug__" : Str)) = false := by decide) (hs : PlainIx b := by exact fun _ _ => rfl) : PE X (.Subscript (.Name x q) b pos) (tE p W (f1 vd fb)) := by
  obtain ⟨a, es, n, h1, h2, h3, h4⟩ := h
  refine (pe_ix ix_kdict (pe_glob hg h1 (v := .ref a) rfl hd) hb hs).weak fun σ H Q ⟨io, r, m, rs, rm, h⟩ => ?_
  refine (show tE p W fb σ H (fun w H1 => rIxD X.K X.w (.ref a) w H1 Q) from ⟨io, r, m, rs, rm, PostG.mono (PostG.bind h) fun y io1 H1 m1 a1 rm1 hp v rv => ?_⟩)
  have z := hp.val
  generalize e : vd y m1 = r at z
  match r, z with
  | none, z => exact z.elim
  | some w, z =>
    obtain ⟨k, rfl, hk⟩ := hv y m1 w e
    obtain ⟨u, v2, e1, e2, e3⟩ := h4 _ hk
    simp only [RV] at rv
    exact ⟨a, mkS k, v2, rfl, rv, ⟨es, n, u, by rw [g.hK]; exact h2, h3, by rw [g.hK]; exact e1, e2⟩, z.same rm1 (e3 _ _)⟩
/-! ### the defs -/
def parOf (names : List Str) (K : PySem.W.Frag) : Par := ⟨K, fun k => He.ga K (names.getD k Str.empty)⟩
theorem FunD.fun_ {K : PySem.W.Frag} {x qual : Str} {st : Stmt} {f : Addr} {fd : FuncData} (F : FunD K x qual (defArgs st) (defBody st) (defScope st) [] [] f fd) : Fun K x qual st f fd := by
  obtain ⟨⟨oc, od, dV, kV, doc, pm, an, cdv, ct, osl, e1, e2, e3, e4, _⟩, kp⟩ := F
  rcases e4 with ⟨_, rfl⟩ | ⟨h, _⟩
  · exact ⟨⟨oc, od, kV, doc, pm, an, cdv, ct, osl, e1, e2, e3⟩, kp⟩
  · exact absurd rfl h
/-- what the head tells -/
structure Told (names : List Str) (fa : List He.Fa) (fn : List He.DefD) (ts : List He.Tab) (ex : PySem.W.Frag → Bool) (w : World) (p : Par) (mg : Str → Option Value) : Prop where
  pe : p = parOf names p.K
  X : ∃ h : Heap, p.K.In h ∧ h.Ns mainGlobals mg
  c : He.SaysT fa fn ts w p.K
  more : ex p.K = true
section
variable {names : List Str} {fa : List He.Fa} {fn : List He.DefD} {ts : List He.Tab} {ex : PySem.W.Frag → Bool} {w : World} {p : Par} {mg : Str → Option Value}
theorem Told.fa_ (T : Told names fa fn ts ex w p mg) (k : Nat) {x : Str} (h : names.getD k Str.empty = x) : p.FA k = He.ga p.K x := by
  have : p.FA k = (parOf names p.K).FA k := by rw [← T.pe]
  rw [this, ← h]
  rfl
theorem Told.glo (T : Told names fa fn ts ex w p mg) (i k : Nat) {x : Str} (h : names.getD k Str.empty = x) (hf : fa[i]? = some (.glo x)) : mg x = some (.ref (p.FA k)) := by
  obtain ⟨hp, X, G⟩ := T.X
  rw [T.fa_ k h]
  exact He.glo_ok X G (T.c.d.fact i hf)
theorem Told.free (T : Told names fa fn ts ex w p mg) (i : Nat) {x : Str} (hf : fa[i]? = some (.free x)) : mg x = none := by
  obtain ⟨hp, X, G⟩ := T.X
  exact He.free_ok X G (T.c.d.fact i hf)
theorem Told.cls (T : Told names fa fn ts ex w p mg) (i k : Nat) {x : Str} (h : names.getD k Str.empty = x) (hf : fa[i]? = some (.cls x)) : Cls p.K (p.FA k) := by
  rw [T.fa_ k h]
  exact He.cls_ok (T.c.d.fact i hf)
theorem Told.noat (T : Told names fa fn ts ex w p mg) (i k : Nat) {x f : Str} (h : names.getD k Str.empty = x) (hf : fa[i]? = some (.noat x f)) : NoAttr p.K (p.FA k) f := by
  rw [T.fa_ k h]
  exact He.noat_ok (T.c.d.fact i hf)
theorem Told.fn_ (T : Told names fa fn ts ex w p mg) (j k : Nat) {x : Str} (st : Stmt) (h : names.getD k Str.empty = x) (hf : fn[j]? = some ⟨(x, none), x, x, defArgs st, defBody st, defScope st, [], []⟩) : ∃ fd, Fun p.K x x st (p.FA k) fd := by
  obtain ⟨fd, F⟩ := T.c.d.def_ j hf
  rw [T.fa_ k h]
  exact ⟨fd, FunD.fun_ F⟩
theorem Told.meth (T : Told names fa fn ts ex w p mg) (i j k : Nat) {x m qual : Str} (st : Stmt) (h : names.getD k Str.empty = x) (hf : fa[i]? = some (.meth x m)) (hd : fn[j]? = some ⟨(x, some m), m, qual, defArgs st, defBody st, defScope st, [], []⟩) :
    ∃ f fd, Meth p.K (p.FA k) m f ∧ Fun p.K m qual st f fd := by
  obtain ⟨fd, F⟩ := T.c.d.def_ j hd
  refine ⟨_, fd, ?_, FunD.fun_ F⟩
  rw [T.fa_ k h]
  exact He.meth_ok (T.c.d.fact i hf)
theorem Told.mkr (T : Told names fa fn ts ex w p mg) (i j k : Nat) {x qual : Str} (st : Stmt) (h : names.getD k Str.empty = x) (hf : fa[i]? = some (.mkr x)) (hd : fn[j]? = some ⟨(x, some "__init__"), "__init__", qual, defArgs st, defBody st, defScope st, [], []⟩) :
    ∃ f fd, Mk p.K (p.FA k) f ∧ Fun p.K "__init__" qual st f fd := by
  obtain ⟨fd, F⟩ := T.c.d.def_ j hd
  refine ⟨_, fd, ?_, FunD.fun_ F⟩
  rw [T.fa_ k h]
  exact He.mkr_ok (T.c.d.fact i hf)
end
/-- no list stands in the written part -/
def noLst (K : PySem.W.Frag) : Bool := K.all fun q => match q.2.cls with
  | .type c => !decide (c = "list")
  | _ => true
/-- the constants and dicts looked at -/
def exB (names : List Str) (cs : List (Str × PV)) (ds : List (Str × List (List Nat × PV))) (K : PySem.W.Frag) : Bool :=
  noLst K && ((cs.all fun q => cB (parOf names K) q.1 q.2) && ds.all fun q => dB (parOf names K) q.1 q.2)
section
variable {names : List Str} {fa : List He.Fa} {fn : List He.DefD} {ts : List He.Tab} {cs : List (Str × PV)} {ds : List (Str × List (List Nat × PV))} {w : World} {p : Par} {mg : Str → Option Value}
theorem Told.cst (T : Told names fa fn ts (exB names cs ds) w p mg) (i : Nat) {x : Str} {c : PV} (h : cs[i]? = some (x, c)) : CstAt p mg x c := by
  obtain ⟨hp, X, G⟩ := T.X
  have e := (He.ba (He.ba T.more).2).1
  have e2 := List.all_eq_true.mp e (x, c) (List.mem_of_getElem? h)
  have e3 : cB p x c = true := by rw [T.pe]; exact e2
  exact cB_ok X G e3
theorem Told.dct (T : Told names fa fn ts (exB names cs ds) w p mg) (i j l : Nat) {x : Str} {kvs : List (List Nat × PV)} (ks : List Str) (hf : fa[l]? = some (.glo x)) (h : ds[i]? = some (x, kvs)) (ht : ts[j]? = some ((fun K => He.ga K x), ks)) : DctAt p w mg x kvs := by
  obtain ⟨hp, X, G⟩ := T.X
  have e := (He.ba (He.ba T.more).2).2
  have e2 := List.all_eq_true.mp e (x, kvs) (List.mem_of_getElem? h)
  have e3 : dB p x kvs = true := by rw [T.pe]; exact e2
  exact dB_ok (He.glo_ok X G (T.c.d.fact l hf)) (T.c.tab j ht) e3
end
/-! ### the law's start: the script -/
theorem lookup_mem {a : Addr} {o : Obj} : ∀ {K : PySem.W.Frag}, K.lookup a = some o → ∃ q ∈ K, q.2 = o
  | [], h => by cases h
  | (b, u) :: r, h => by
    simp only [List.lookup] at h
    split at h
    · simp only [Option.some.injEq] at h
      exact ⟨(b, u), by simp, h⟩
    · obtain ⟨q, h1, h2⟩ := lookup_mem h
      exact ⟨q, by simp [h1], h2⟩
theorem script_in {p : Par} {H : Hp} {a : Addr} {ns : List Int} (hn : noLst p.K = true) (hO : Only H) (hS : SqL p.K H a (ns.map V.int)) : ∃ o, H a = some (.frz o (.lst (ns.map V.int))) := by
  rcases hS with h | ⟨o, its, n, h1, h2, _⟩
  · rcases h with h | ⟨o, h⟩
    · rcases hO a with h' | ⟨o, xs, h'⟩
      · rw [h'] at h; cases h
      · rw [h'] at h; cases h
    · exact ⟨o, h⟩
  · obtain ⟨q, hq, rfl⟩ := lookup_mem h1
    have := List.all_eq_true.mp hn q hq
    rw [h2] at this
    simp at this
theorem spF_law {p : Par} {F : Fn} {H : Hp} {a : Addr} {ns : List Int} {E : XK} (hn : noLst p.K = true) (hF : F [.ref 0] [.rol (ns.map PV.int)] = some (.bl true, [.rol (ns.map PV.int)])) (hO : Only H) (hS : SqL p.K H a (ns.map V.int)) :
    spF p 1 F [.ref a] H (fun v _ => v = .bl true) E := by
  obtain ⟨o, ho⟩ := script_in hn hO hS
  refine ⟨⟨[a], []⟩, [.rol (ns.map PV.int)], [.ref 0], ⟨rfl, by simp, fun n ob b h1 h2 => ?_, fun b hb => nomatch hb⟩, ?_, rfl, ?_⟩
  · cases n with
    | succ n => simp at h1
    | zero =>
      simp only [List.getElem?_cons_zero, Option.some.injEq] at h1 h2
      subst h1 h2
      refine ⟨by rw [ho]; simp, fun zs => by rw [ho]; simp, _, .inl ⟨o, ho⟩, RVs.ofInts ns⟩
  · simp only [RVs, RV]
    exact ⟨.ref a, [], rfl, ⟨a, rfl, rfl⟩, rfl⟩
  · rw [hF]
    intro io' H' v _ _ rv
    simpa [RV] using rv
/-! ### tables of defs -/
theorem held_of {p : Par} {P : Program} {w : World} {mg : Str → Option Value} {base : Heap} {k j n : Nat} {x : Str} {F : Fn} (h : FnAt p P w mg base x j n F) (i : Nat) (hm : mg x = some (.ref (p.FA i))) (hj : j ≤ k) :
    ∃ fd ps, FnOk P w p.K mg base CX0 k (p.FA i) fd ps (spF p n F) ∧ PySem.W.keepIn p.K (.ref (p.FA i)) = true ∧ Binds p.K fd ps [] := by
  obtain ⟨f, fd, ps, h1, h2, h3, h4⟩ := h.ex
  rw [hm] at h1
  simp only [Option.some.injEq, Value.ref.injEq] at h1
  subst h1
  exact ⟨fd, ps, h2.mono hj, h3, h4⟩
end Mini
namespace K29
open PySem L2 Mini
def kv_SORTS : List (List Nat × PV) := [(sR, .int 0), (sJ, .int 1), (sD, .int 2)]
theorem vd_SORTS_is : ∀ y m z, vd_SORTS y m = some z → ∃ k, y = .str k ∧ (k, z) ∈ kv_SORTS := fun y m z h => by
  unfold vd_SORTS at h
  split at h
  · rename_i k
    split at h
    · rename_i e; cases h; exact ⟨k, rfl, by simp [kv_SORTS, e]⟩
    · split at h
      · rename_i e; cases h; exact ⟨k, rfl, by simp [kv_SORTS, e]⟩
      · split at h
        · rename_i e; cases h; exact ⟨k, rfl, by simp [kv_SORTS, e]⟩
        · cases h
  · cases h
end K29
namespace K29
open PySem L2 Mini
/-! the text -/
def topS (i : Nat) : Stmt := PySem.Challenge.pw_lostcart_k29_lines_scanned_word_by_word.main.body.getD i (.Pass ⟨0, 0, 0, 0⟩)
abbrev PR : Program := PySem.Challenge.rw_lostcart_k29_lines_scanned_word_by_word.prog
abbrev s_is_name : Stmt := topS 10
abbrev s_Scan_init : Stmt := inClass (topS 12) 0
abbrev s_Scan_next_sign : Stmt := inClass (topS 12) 1
abbrev s_Scan_rest_run : Stmt := inClass (topS 12) 2
abbrev s_Scan_take_word : Stmt := inClass (topS 12) 3
abbrev s_Scan_take_name : Stmt := inClass (topS 12) 4
abbrev s_Scan_take_signs : Stmt := inClass (topS 12) 5
abbrev s_is_beginning : Stmt := topS 13
abbrev s_Scan_take_count : Stmt := inClass (topS 12) 6
abbrev s_Scan_take_end : Stmt := inClass (topS 12) 7
abbrev s_take_ring : Stmt := topS 18
abbrev s_take_cells : Stmt := topS 19
abbrev s_take_bin : Stmt := topS 20
abbrev s_take_head : Stmt := topS 21
abbrev s_take_job : Stmt := topS 22
abbrev s_take_day : Stmt := topS 23
abbrev s_take_carry : Stmt := topS 24
abbrev s_take_do : Stmt := topS 25
abbrev s_take_last : Stmt := topS 26
abbrev s_take_cuts : Stmt := topS 27
abbrev s_take_close : Stmt := topS 28
abbrev s_fitted : Stmt := topS 29
abbrev s_Reading_init : Stmt := inClass (topS 33) 0
abbrev s_Reading_take_row : Stmt := inClass (topS 33) 1
abbrev s_Reading_are_left : Stmt := inClass (topS 33) 2
abbrev s_Reading_take_ring_behind : Stmt := inClass (topS 33) 3
abbrev s_Reading_take_rows_behind : Stmt := inClass (topS 33) 4
abbrev s_read_text : Stmt := topS 34
abbrev s_ring_lines : Stmt := topS 36
abbrev s_end_lines : Stmt := topS 37
abbrev s_job_lines : Stmt := topS 38
abbrev s_day_lines : Stmt := topS 39
abbrev s_text_lines : Stmt := topS 40
abbrev s_law_bag : Stmt := topS 42
abbrev s_law_take : Stmt := topS 43
abbrev s_law_some : Stmt := topS 44
abbrev s_law_turned : Stmt := topS 46
abbrev s_law_leaving : Stmt := topS 47
abbrev s_law_word : Stmt := topS 45
abbrev s_law_task : Stmt := topS 48
abbrev s_law_texts : Stmt := topS 49
abbrev s_law_scan : Stmt := topS 50
abbrev s_law : Stmt := topS 51
def names : List Str := ["is_name", "Scan", "is_beginning", "take_ring", "take_cells", "take_bin", "take_head", "take_job", "take_day", "take_carry", "take_do", "take_last", "take_cuts", "take_close", "fitted", "Reading", "read_text", "ring_lines", "end_lines", "job_lines", "day_lines", "text_lines", "_law_bag", "_law_take", "_law_some", "_law_word", "_law_turned", "_law_leaving", "_law_task", "_law_texts", "_law_scan", "law"]
def fa : List He.Fa := [.free "abs", .free "all", .free "enumerate", .free "int", .free "isinstance", .free "len", .free "list", .free "max", .free "min", .free "range", .free "set", .free "sorted", .free "str", .free "tuple", .free "zip", .glo "is_name", .glo "Scan", .glo "is_beginning", .glo "take_ring", .glo "take_cells", .glo "take_bin", .glo "take_head", .glo "take_job", .glo "take_day", .glo "take_carry", .glo "take_do", .glo "take_last", .glo "take_cuts", .glo "take_close", .glo "fitted", .glo "Reading", .glo "read_text", .glo "ring_lines", .glo "end_lines", .glo "job_lines", .glo "day_lines", .glo "text_lines", .glo "_law_bag", .glo "_law_take", .glo "_law_some", .glo "_law_word", .glo "_law_turned", .glo "_law_leaving", .glo "_law_task", .glo "_law_texts", .glo "_law_scan", .glo "law", .glo "SORTS", .cls "Scan", .noat "Scan" "at", .noat "Scan" "good", .noat "Scan" "text", .mkr "Scan", .meth "Scan" "next_sign", .meth "Scan" "rest_run", .meth "Scan" "take_word", .meth "Scan" "take_name", .meth "Scan" "take_signs", .meth "Scan" "take_count", .meth "Scan" "take_end", .cls "Reading", .noat "Reading" "ahead", .noat "Reading" "lines", .mkr "Reading", .meth "Reading" "take_row", .meth "Reading" "are_left", .meth "Reading" "take_ring_behind", .meth "Reading" "take_rows_behind"]
def fn : List He.DefD := [⟨("is_name", none), "is_name", "is_name", defArgs s_is_name, defBody s_is_name, defScope s_is_name, [], []⟩,
  ⟨("Scan", some "__init__"), "__init__", "Scan.__init__", defArgs s_Scan_init, defBody s_Scan_init, defScope s_Scan_init, [], []⟩,
  ⟨("Scan", some "next_sign"), "next_sign", "Scan.next_sign", defArgs s_Scan_next_sign, defBody s_Scan_next_sign, defScope s_Scan_next_sign, [], []⟩,
  ⟨("Scan", some "rest_run"), "rest_run", "Scan.rest_run", defArgs s_Scan_rest_run, defBody s_Scan_rest_run, defScope s_Scan_rest_run, [], []⟩,
  ⟨("Scan", some "take_word"), "take_word", "Scan.take_word", defArgs s_Scan_take_word, defBody s_Scan_take_word, defScope s_Scan_take_word, [], []⟩,
  ⟨("Scan", some "take_name"), "take_name", "Scan.take_name", defArgs s_Scan_take_name, defBody s_Scan_take_name, defScope s_Scan_take_name, [], []⟩,
  ⟨("Scan", some "take_signs"), "take_signs", "Scan.take_signs", defArgs s_Scan_take_signs, defBody s_Scan_take_signs, defScope s_Scan_take_signs, [], []⟩,
  ⟨("is_beginning", none), "is_beginning", "is_beginning", defArgs s_is_beginning, defBody s_is_beginning, defScope s_is_beginning, [], []⟩,
  ⟨("Scan", some "take_count"), "take_count", "Scan.take_count", defArgs s_Scan_take_count, defBody s_Scan_take_count, defScope s_Scan_take_count, [], []⟩,
  ⟨("Scan", some "take_end"), "take_end", "Scan.take_end", defArgs s_Scan_take_end, defBody s_Scan_take_end, defScope s_Scan_take_end, [], []⟩,
  ⟨("take_ring", none), "take_ring", "take_ring", defArgs s_take_ring, defBody s_take_ring, defScope s_take_ring, [], []⟩,
  ⟨("take_cells", none), "take_cells", "take_cells", defArgs s_take_cells, defBody s_take_cells, defScope s_take_cells, [], []⟩,
  ⟨("take_bin", none), "take_bin", "take_bin", defArgs s_take_bin, defBody s_take_bin, defScope s_take_bin, [], []⟩,
  ⟨("take_head", none), "take_head", "take_head", defArgs s_take_head, defBody s_take_head, defScope s_take_head, [], []⟩,
  ⟨("take_job", none), "take_job", "take_job", defArgs s_take_job, defBody s_take_job, defScope s_take_job, [], []⟩,
  ⟨("take_day", none), "take_day", "take_day", defArgs s_take_day, defBody s_take_day, defScope s_take_day, [], []⟩,
  ⟨("take_carry", none), "take_carry", "take_carry", defArgs s_take_carry, defBody s_take_carry, defScope s_take_carry, [], []⟩,
  ⟨("take_do", none), "take_do", "take_do", defArgs s_take_do, defBody s_take_do, defScope s_take_do, [], []⟩,
  ⟨("take_last", none), "take_last", "take_last", defArgs s_take_last, defBody s_take_last, defScope s_take_last, [], []⟩,
  ⟨("take_cuts", none), "take_cuts", "take_cuts", defArgs s_take_cuts, defBody s_take_cuts, defScope s_take_cuts, [], []⟩,
  ⟨("take_close", none), "take_close", "take_close", defArgs s_take_close, defBody s_take_close, defScope s_take_close, [], []⟩,
  ⟨("fitted", none), "fitted", "fitted", defArgs s_fitted, defBody s_fitted, defScope s_fitted, [], []⟩,
  ⟨("Reading", some "__init__"), "__init__", "Reading.__init__", defArgs s_Reading_init, defBody s_Reading_init, defScope s_Reading_init, [], []⟩,
  ⟨("Reading", some "take_row"), "take_row", "Reading.take_row", defArgs s_Reading_take_row, defBody s_Reading_take_row, defScope s_Reading_take_row, [], []⟩,
  ⟨("Reading", some "are_left"), "are_left", "Reading.are_left", defArgs s_Reading_are_left, defBody s_Reading_are_left, defScope s_Reading_are_left, [], []⟩,
  ⟨("Reading", some "take_ring_behind"), "take_ring_behind", "Reading.take_ring_behind", defArgs s_Reading_take_ring_behind, defBody s_Reading_take_ring_behind, defScope s_Reading_take_ring_behind, [], []⟩,
  ⟨("Reading", some "take_rows_behind"), "take_rows_behind", "Reading.take_rows_behind", defArgs s_Reading_take_rows_behind, defBody s_Reading_take_rows_behind, defScope s_Reading_take_rows_behind, [], []⟩,
  ⟨("read_text", none), "read_text", "read_text", defArgs s_read_text, defBody s_read_text, defScope s_read_text, [], []⟩,
  ⟨("ring_lines", none), "ring_lines", "ring_lines", defArgs s_ring_lines, defBody s_ring_lines, defScope s_ring_lines, [], []⟩,
  ⟨("end_lines", none), "end_lines", "end_lines", defArgs s_end_lines, defBody s_end_lines, defScope s_end_lines, [], []⟩,
  ⟨("job_lines", none), "job_lines", "job_lines", defArgs s_job_lines, defBody s_job_lines, defScope s_job_lines, [], []⟩,
  ⟨("day_lines", none), "day_lines", "day_lines", defArgs s_day_lines, defBody s_day_lines, defScope s_day_lines, [], []⟩,
  ⟨("text_lines", none), "text_lines", "text_lines", defArgs s_text_lines, defBody s_text_lines, defScope s_text_lines, [], []⟩,
  ⟨("_law_bag", none), "_law_bag", "_law_bag", defArgs s_law_bag, defBody s_law_bag, defScope s_law_bag, [], []⟩,
  ⟨("_law_take", none), "_law_take", "_law_take", defArgs s_law_take, defBody s_law_take, defScope s_law_take, [], []⟩,
  ⟨("_law_some", none), "_law_some", "_law_some", defArgs s_law_some, defBody s_law_some, defScope s_law_some, [], []⟩,
  ⟨("_law_turned", none), "_law_turned", "_law_turned", defArgs s_law_turned, defBody s_law_turned, defScope s_law_turned, [], []⟩,
  ⟨("_law_leaving", none), "_law_leaving", "_law_leaving", defArgs s_law_leaving, defBody s_law_leaving, defScope s_law_leaving, [], []⟩,
  ⟨("_law_word", none), "_law_word", "_law_word", defArgs s_law_word, defBody s_law_word, defScope s_law_word, [], []⟩,
  ⟨("_law_task", none), "_law_task", "_law_task", defArgs s_law_task, defBody s_law_task, defScope s_law_task, [], []⟩,
  ⟨("_law_texts", none), "_law_texts", "_law_texts", defArgs s_law_texts, defBody s_law_texts, defScope s_law_texts, [], []⟩,
  ⟨("_law_scan", none), "_law_scan", "_law_scan", defArgs s_law_scan, defBody s_law_scan, defScope s_law_scan, [], []⟩,
  ⟨("law", none), "law", "law", defArgs s_law, defBody s_law, defScope s_law, [], []⟩]
def cs : List (Str × PV) := [("DIGITS", c_DIGITS), ("HEADS", c_HEADS), ("LEAST_CELLS", c_LEAST_CELLS), ("LETTERS", c_LETTERS), ("MARKS", c_MARKS), ("MOST_CELLS", c_MOST_CELLS), ("MOST_CUTS", c_MOST_CUTS), ("MOST_SIGNS", c_MOST_SIGNS), ("RESERVED", c_RESERVED), ("day_lines", .glo 20), ("job_lines", .glo 19), ("ring_lines", .glo 17), ("take_bin", .glo 5), ("take_carry", .glo 9), ("take_cells", .glo 4), ("take_close", .glo 13), ("take_cuts", .glo 12), ("take_do", .glo 10), ("take_last", .glo 11)]
def dcs : List (Str × List (List Nat × PV)) := [("SORTS", kv_SORTS)]
def tb_SORTS : He.Tab := ((fun K => He.ga K "SORTS"), ["ring", "job", "day"])
def ts : List He.Tab := [tb_SORTS]
structure Txt (w : World) (p : Par) (mg : Str → Option Value) : Prop where
  t : Told names fa fn ts (exB names cs dcs) w p mg
section
variable {w : World} {p : Par} {mg : Str → Option Value} {base : Heap}
theorem Txt.z_abs (T : Txt w p mg) : mg "abs" = none := T.t.free 0 rfl
theorem Txt.z_all (T : Txt w p mg) : mg "all" = none := T.t.free 1 rfl
theorem Txt.z_enumerate (T : Txt w p mg) : mg "enumerate" = none := T.t.free 2 rfl
theorem Txt.z_int (T : Txt w p mg) : mg "int" = none := T.t.free 3 rfl
theorem Txt.z_isinstance (T : Txt w p mg) : mg "isinstance" = none := T.t.free 4 rfl
theorem Txt.z_len (T : Txt w p mg) : mg "len" = none := T.t.free 5 rfl
theorem Txt.z_list (T : Txt w p mg) : mg "list" = none := T.t.free 6 rfl
theorem Txt.z_max (T : Txt w p mg) : mg "max" = none := T.t.free 7 rfl
theorem Txt.z_min (T : Txt w p mg) : mg "min" = none := T.t.free 8 rfl
theorem Txt.z_range (T : Txt w p mg) : mg "range" = none := T.t.free 9 rfl
theorem Txt.z_set (T : Txt w p mg) : mg "set" = none := T.t.free 10 rfl
theorem Txt.z_sorted (T : Txt w p mg) : mg "sorted" = none := T.t.free 11 rfl
theorem Txt.z_str (T : Txt w p mg) : mg "str" = none := T.t.free 12 rfl
theorem Txt.z_tuple (T : Txt w p mg) : mg "tuple" = none := T.t.free 13 rfl
theorem Txt.z_zip (T : Txt w p mg) : mg "zip" = none := T.t.free 14 rfl
theorem Txt.g_is_name (T : Txt w p mg) : mg "is_name" = some (.ref (p.FA 0)) := T.t.glo 15 0 rfl rfl
theorem Txt.g_Scan (T : Txt w p mg) : mg "Scan" = some (.ref (p.FA 1)) := T.t.glo 16 1 rfl rfl
theorem Txt.g_is_beginning (T : Txt w p mg) : mg "is_beginning" = some (.ref (p.FA 2)) := T.t.glo 17 2 rfl rfl
theorem Txt.g_take_ring (T : Txt w p mg) : mg "take_ring" = some (.ref (p.FA 3)) := T.t.glo 18 3 rfl rfl
theorem Txt.g_take_cells (T : Txt w p mg) : mg "take_cells" = some (.ref (p.FA 4)) := T.t.glo 19 4 rfl rfl
theorem Txt.g_take_bin (T : Txt w p mg) : mg "take_bin" = some (.ref (p.FA 5)) := T.t.glo 20 5 rfl rfl
theorem Txt.g_take_head (T : Txt w p mg) : mg "take_head" = some (.ref (p.FA 6)) := T.t.glo 21 6 rfl rfl
theorem Txt.g_take_job (T : Txt w p mg) : mg "take_job" = some (.ref (p.FA 7)) := T.t.glo 22 7 rfl rfl
theorem Txt.g_take_day (T : Txt w p mg) : mg "take_day" = some (.ref (p.FA 8)) := T.t.glo 23 8 rfl rfl
theorem Txt.g_take_carry (T : Txt w p mg) : mg "take_carry" = some (.ref (p.FA 9)) := T.t.glo 24 9 rfl rfl
theorem Txt.g_take_do (T : Txt w p mg) : mg "take_do" = some (.ref (p.FA 10)) := T.t.glo 25 10 rfl rfl
theorem Txt.g_take_last (T : Txt w p mg) : mg "take_last" = some (.ref (p.FA 11)) := T.t.glo 26 11 rfl rfl
theorem Txt.g_take_cuts (T : Txt w p mg) : mg "take_cuts" = some (.ref (p.FA 12)) := T.t.glo 27 12 rfl rfl
theorem Txt.g_take_close (T : Txt w p mg) : mg "take_close" = some (.ref (p.FA 13)) := T.t.glo 28 13 rfl rfl
theorem Txt.g_fitted (T : Txt w p mg) : mg "fitted" = some (.ref (p.FA 14)) := T.t.glo 29 14 rfl rfl
theorem Txt.g_Reading (T : Txt w p mg) : mg "Reading" = some (.ref (p.FA 15)) := T.t.glo 30 15 rfl rfl
theorem Txt.g_read_text (T : Txt w p mg) : mg "read_text" = some (.ref (p.FA 16)) := T.t.glo 31 16 rfl rfl
theorem Txt.g_ring_lines (T : Txt w p mg) : mg "ring_lines" = some (.ref (p.FA 17)) := T.t.glo 32 17 rfl rfl
theorem Txt.g_end_lines (T : Txt w p mg) : mg "end_lines" = some (.ref (p.FA 18)) := T.t.glo 33 18 rfl rfl
theorem Txt.g_job_lines (T : Txt w p mg) : mg "job_lines" = some (.ref (p.FA 19)) := T.t.glo 34 19 rfl rfl
theorem Txt.g_day_lines (T : Txt w p mg) : mg "day_lines" = some (.ref (p.FA 20)) := T.t.glo 35 20 rfl rfl
theorem Txt.g_text_lines (T : Txt w p mg) : mg "text_lines" = some (.ref (p.FA 21)) := T.t.glo 36 21 rfl rfl
theorem Txt.g_law_bag (T : Txt w p mg) : mg "_law_bag" = some (.ref (p.FA 22)) := T.t.glo 37 22 rfl rfl
theorem Txt.g_law_take (T : Txt w p mg) : mg "_law_take" = some (.ref (p.FA 23)) := T.t.glo 38 23 rfl rfl
theorem Txt.g_law_some (T : Txt w p mg) : mg "_law_some" = some (.ref (p.FA 24)) := T.t.glo 39 24 rfl rfl
theorem Txt.g_law_word (T : Txt w p mg) : mg "_law_word" = some (.ref (p.FA 25)) := T.t.glo 40 25 rfl rfl
theorem Txt.g_law_turned (T : Txt w p mg) : mg "_law_turned" = some (.ref (p.FA 26)) := T.t.glo 41 26 rfl rfl
theorem Txt.g_law_leaving (T : Txt w p mg) : mg "_law_leaving" = some (.ref (p.FA 27)) := T.t.glo 42 27 rfl rfl
theorem Txt.g_law_task (T : Txt w p mg) : mg "_law_task" = some (.ref (p.FA 28)) := T.t.glo 43 28 rfl rfl
theorem Txt.g_law_texts (T : Txt w p mg) : mg "_law_texts" = some (.ref (p.FA 29)) := T.t.glo 44 29 rfl rfl
theorem Txt.g_law_scan (T : Txt w p mg) : mg "_law_scan" = some (.ref (p.FA 30)) := T.t.glo 45 30 rfl rfl
theorem Txt.g_law (T : Txt w p mg) : mg "law" = some (.ref (p.FA 31)) := T.t.glo 46 31 rfl rfl
theorem Txt.c_DIGITS (T : Txt w p mg) : CstAt p mg "DIGITS" c_DIGITS := T.t.cst 0 rfl
theorem Txt.c_HEADS (T : Txt w p mg) : CstAt p mg "HEADS" c_HEADS := T.t.cst 1 rfl
theorem Txt.c_LEAST_CELLS (T : Txt w p mg) : CstAt p mg "LEAST_CELLS" c_LEAST_CELLS := T.t.cst 2 rfl
theorem Txt.c_LETTERS (T : Txt w p mg) : CstAt p mg "LETTERS" c_LETTERS := T.t.cst 3 rfl
theorem Txt.c_MARKS (T : Txt w p mg) : CstAt p mg "MARKS" c_MARKS := T.t.cst 4 rfl
theorem Txt.c_MOST_CELLS (T : Txt w p mg) : CstAt p mg "MOST_CELLS" c_MOST_CELLS := T.t.cst 5 rfl
theorem Txt.c_MOST_CUTS (T : Txt w p mg) : CstAt p mg "MOST_CUTS" c_MOST_CUTS := T.t.cst 6 rfl
theorem Txt.c_MOST_SIGNS (T : Txt w p mg) : CstAt p mg "MOST_SIGNS" c_MOST_SIGNS := T.t.cst 7 rfl
theorem Txt.c_RESERVED (T : Txt w p mg) : CstAt p mg "RESERVED" c_RESERVED := T.t.cst 8 rfl
theorem Txt.v_day_lines (T : Txt w p mg) : CstAt p mg "day_lines" (.glo 20) := T.t.cst 9 rfl
theorem Txt.v_job_lines (T : Txt w p mg) : CstAt p mg "job_lines" (.glo 19) := T.t.cst 10 rfl
theorem Txt.v_ring_lines (T : Txt w p mg) : CstAt p mg "ring_lines" (.glo 17) := T.t.cst 11 rfl
theorem Txt.v_take_bin (T : Txt w p mg) : CstAt p mg "take_bin" (.glo 5) := T.t.cst 12 rfl
theorem Txt.v_take_carry (T : Txt w p mg) : CstAt p mg "take_carry" (.glo 9) := T.t.cst 13 rfl
theorem Txt.v_take_cells (T : Txt w p mg) : CstAt p mg "take_cells" (.glo 4) := T.t.cst 14 rfl
theorem Txt.v_take_close (T : Txt w p mg) : CstAt p mg "take_close" (.glo 13) := T.t.cst 15 rfl
theorem Txt.v_take_cuts (T : Txt w p mg) : CstAt p mg "take_cuts" (.glo 12) := T.t.cst 16 rfl
theorem Txt.v_take_do (T : Txt w p mg) : CstAt p mg "take_do" (.glo 10) := T.t.cst 17 rfl
theorem Txt.v_take_last (T : Txt w p mg) : CstAt p mg "take_last" (.glo 11) := T.t.cst 18 rfl
theorem Txt.d_SORTS (T : Txt w p mg) : DctAt p w mg "SORTS" kv_SORTS := T.t.dct 0 0 47 _ rfl rfl rfl
theorem Txt.k_Scan (T : Txt w p mg) : Cls p.K (p.FA 1) := T.t.cls 48 1 rfl rfl
theorem Txt.n_Scan_at (T : Txt w p mg) : NoAttr p.K (p.FA 1) (Str.ofString "at") := T.t.noat 49 1 rfl rfl
theorem Txt.n_Scan_good (T : Txt w p mg) : NoAttr p.K (p.FA 1) (Str.ofString "good") := T.t.noat 50 1 rfl rfl
theorem Txt.n_Scan_text (T : Txt w p mg) : NoAttr p.K (p.FA 1) (Str.ofString "text") := T.t.noat 51 1 rfl rfl
theorem Txt.k_Reading (T : Txt w p mg) : Cls p.K (p.FA 15) := T.t.cls 60 15 rfl rfl
theorem Txt.n_Reading_ahead (T : Txt w p mg) : NoAttr p.K (p.FA 15) (Str.ofString "ahead") := T.t.noat 61 15 rfl rfl
theorem Txt.n_Reading_lines (T : Txt w p mg) : NoAttr p.K (p.FA 15) (Str.ofString "lines") := T.t.noat 62 15 rfl rfl
theorem Txt.f_is_name (T : Txt w p mg) : ∃ fd, Fun p.K "is_name" "is_name" s_is_name (p.FA 0) fd := T.t.fn_ 0 0 s_is_name rfl rfl
theorem Txt.f_Scan_init (T : Txt w p mg) : ∃ f fd, Mk p.K (p.FA 1) f ∧ Fun p.K "__init__" "Scan.__init__" s_Scan_init f fd := T.t.mkr 52 1 1 s_Scan_init rfl rfl rfl
theorem Txt.f_Scan_next_sign (T : Txt w p mg) : ∃ f fd, Meth p.K (p.FA 1) (Str.ofString "next_sign") f ∧ Fun p.K "next_sign" "Scan.next_sign" s_Scan_next_sign f fd := T.t.meth 53 2 1 s_Scan_next_sign rfl rfl rfl
theorem Txt.f_Scan_rest_run (T : Txt w p mg) : ∃ f fd, Meth p.K (p.FA 1) (Str.ofString "rest_run") f ∧ Fun p.K "rest_run" "Scan.rest_run" s_Scan_rest_run f fd := T.t.meth 54 3 1 s_Scan_rest_run rfl rfl rfl
theorem Txt.f_Scan_take_word (T : Txt w p mg) : ∃ f fd, Meth p.K (p.FA 1) (Str.ofString "take_word") f ∧ Fun p.K "take_word" "Scan.take_word" s_Scan_take_word f fd := T.t.meth 55 4 1 s_Scan_take_word rfl rfl rfl
theorem Txt.f_Scan_take_name (T : Txt w p mg) : ∃ f fd, Meth p.K (p.FA 1) (Str.ofString "take_name") f ∧ Fun p.K "take_name" "Scan.take_name" s_Scan_take_name f fd := T.t.meth 56 5 1 s_Scan_take_name rfl rfl rfl
theorem Txt.f_Scan_take_signs (T : Txt w p mg) : ∃ f fd, Meth p.K (p.FA 1) (Str.ofString "take_signs") f ∧ Fun p.K "take_signs" "Scan.take_signs" s_Scan_take_signs f fd := T.t.meth 57 6 1 s_Scan_take_signs rfl rfl rfl
theorem Txt.f_is_beginning (T : Txt w p mg) : ∃ fd, Fun p.K "is_beginning" "is_beginning" s_is_beginning (p.FA 2) fd := T.t.fn_ 7 2 s_is_beginning rfl rfl
theorem Txt.f_Scan_take_count (T : Txt w p mg) : ∃ f fd, Meth p.K (p.FA 1) (Str.ofString "take_count") f ∧ Fun p.K "take_count" "Scan.take_count" s_Scan_take_count f fd := T.t.meth 58 8 1 s_Scan_take_count rfl rfl rfl
theorem Txt.f_Scan_take_end (T : Txt w p mg) : ∃ f fd, Meth p.K (p.FA 1) (Str.ofString "take_end") f ∧ Fun p.K "take_end" "Scan.take_end" s_Scan_take_end f fd := T.t.meth 59 9 1 s_Scan_take_end rfl rfl rfl
theorem Txt.f_take_ring (T : Txt w p mg) : ∃ fd, Fun p.K "take_ring" "take_ring" s_take_ring (p.FA 3) fd := T.t.fn_ 10 3 s_take_ring rfl rfl
theorem Txt.f_take_cells (T : Txt w p mg) : ∃ fd, Fun p.K "take_cells" "take_cells" s_take_cells (p.FA 4) fd := T.t.fn_ 11 4 s_take_cells rfl rfl
theorem Txt.f_take_bin (T : Txt w p mg) : ∃ fd, Fun p.K "take_bin" "take_bin" s_take_bin (p.FA 5) fd := T.t.fn_ 12 5 s_take_bin rfl rfl
theorem Txt.f_take_head (T : Txt w p mg) : ∃ fd, Fun p.K "take_head" "take_head" s_take_head (p.FA 6) fd := T.t.fn_ 13 6 s_take_head rfl rfl
theorem Txt.f_take_job (T : Txt w p mg) : ∃ fd, Fun p.K "take_job" "take_job" s_take_job (p.FA 7) fd := T.t.fn_ 14 7 s_take_job rfl rfl
theorem Txt.f_take_day (T : Txt w p mg) : ∃ fd, Fun p.K "take_day" "take_day" s_take_day (p.FA 8) fd := T.t.fn_ 15 8 s_take_day rfl rfl
theorem Txt.f_take_carry (T : Txt w p mg) : ∃ fd, Fun p.K "take_carry" "take_carry" s_take_carry (p.FA 9) fd := T.t.fn_ 16 9 s_take_carry rfl rfl
theorem Txt.f_take_do (T : Txt w p mg) : ∃ fd, Fun p.K "take_do" "take_do" s_take_do (p.FA 10) fd := T.t.fn_ 17 10 s_take_do rfl rfl
theorem Txt.f_take_last (T : Txt w p mg) : ∃ fd, Fun p.K "take_last" "take_last" s_take_last (p.FA 11) fd := T.t.fn_ 18 11 s_take_last rfl rfl
theorem Txt.f_take_cuts (T : Txt w p mg) : ∃ fd, Fun p.K "take_cuts" "take_cuts" s_take_cuts (p.FA 12) fd := T.t.fn_ 19 12 s_take_cuts rfl rfl
theorem Txt.f_take_close (T : Txt w p mg) : ∃ fd, Fun p.K "take_close" "take_close" s_take_close (p.FA 13) fd := T.t.fn_ 20 13 s_take_close rfl rfl
theorem Txt.f_fitted (T : Txt w p mg) : ∃ fd, Fun p.K "fitted" "fitted" s_fitted (p.FA 14) fd := T.t.fn_ 21 14 s_fitted rfl rfl
theorem Txt.f_Reading_init (T : Txt w p mg) : ∃ f fd, Mk p.K (p.FA 15) f ∧ Fun p.K "__init__" "Reading.__init__" s_Reading_init f fd := T.t.mkr 63 22 15 s_Reading_init rfl rfl rfl
theorem Txt.f_Reading_take_row (T : Txt w p mg) : ∃ f fd, Meth p.K (p.FA 15) (Str.ofString "take_row") f ∧ Fun p.K "take_row" "Reading.take_row" s_Reading_take_row f fd := T.t.meth 64 23 15 s_Reading_take_row rfl rfl rfl
theorem Txt.f_Reading_are_left (T : Txt w p mg) : ∃ f fd, Meth p.K (p.FA 15) (Str.ofString "are_left") f ∧ Fun p.K "are_left" "Reading.are_left" s_Reading_are_left f fd := T.t.meth 65 24 15 s_Reading_are_left rfl rfl rfl
theorem Txt.f_Reading_take_ring_behind (T : Txt w p mg) : ∃ f fd, Meth p.K (p.FA 15) (Str.ofString "take_ring_behind") f ∧ Fun p.K "take_ring_behind" "Reading.take_ring_behind" s_Reading_take_ring_behind f fd := T.t.meth 66 25 15 s_Reading_take_ring_behind rfl rfl rfl
theorem Txt.f_Reading_take_rows_behind (T : Txt w p mg) : ∃ f fd, Meth p.K (p.FA 15) (Str.ofString "take_rows_behind") f ∧ Fun p.K "take_rows_behind" "Reading.take_rows_behind" s_Reading_take_rows_behind f fd := T.t.meth 67 26 15 s_Reading_take_rows_behind rfl rfl rfl
theorem Txt.f_read_text (T : Txt w p mg) : ∃ fd, Fun p.K "read_text" "read_text" s_read_text (p.FA 16) fd := T.t.fn_ 27 16 s_read_text rfl rfl
theorem Txt.f_ring_lines (T : Txt w p mg) : ∃ fd, Fun p.K "ring_lines" "ring_lines" s_ring_lines (p.FA 17) fd := T.t.fn_ 28 17 s_ring_lines rfl rfl
theorem Txt.f_end_lines (T : Txt w p mg) : ∃ fd, Fun p.K "end_lines" "end_lines" s_end_lines (p.FA 18) fd := T.t.fn_ 29 18 s_end_lines rfl rfl
theorem Txt.f_job_lines (T : Txt w p mg) : ∃ fd, Fun p.K "job_lines" "job_lines" s_job_lines (p.FA 19) fd := T.t.fn_ 30 19 s_job_lines rfl rfl
theorem Txt.f_day_lines (T : Txt w p mg) : ∃ fd, Fun p.K "day_lines" "day_lines" s_day_lines (p.FA 20) fd := T.t.fn_ 31 20 s_day_lines rfl rfl
theorem Txt.f_text_lines (T : Txt w p mg) : ∃ fd, Fun p.K "text_lines" "text_lines" s_text_lines (p.FA 21) fd := T.t.fn_ 32 21 s_text_lines rfl rfl
theorem Txt.f_law_bag (T : Txt w p mg) : ∃ fd, Fun p.K "_law_bag" "_law_bag" s_law_bag (p.FA 22) fd := T.t.fn_ 33 22 s_law_bag rfl rfl
theorem Txt.f_law_take (T : Txt w p mg) : ∃ fd, Fun p.K "_law_take" "_law_take" s_law_take (p.FA 23) fd := T.t.fn_ 34 23 s_law_take rfl rfl
theorem Txt.f_law_some (T : Txt w p mg) : ∃ fd, Fun p.K "_law_some" "_law_some" s_law_some (p.FA 24) fd := T.t.fn_ 35 24 s_law_some rfl rfl
theorem Txt.f_law_turned (T : Txt w p mg) : ∃ fd, Fun p.K "_law_turned" "_law_turned" s_law_turned (p.FA 26) fd := T.t.fn_ 36 26 s_law_turned rfl rfl
theorem Txt.f_law_leaving (T : Txt w p mg) : ∃ fd, Fun p.K "_law_leaving" "_law_leaving" s_law_leaving (p.FA 27) fd := T.t.fn_ 37 27 s_law_leaving rfl rfl
theorem Txt.f_law_word (T : Txt w p mg) : ∃ fd, Fun p.K "_law_word" "_law_word" s_law_word (p.FA 25) fd := T.t.fn_ 38 25 s_law_word rfl rfl
theorem Txt.f_law_task (T : Txt w p mg) : ∃ fd, Fun p.K "_law_task" "_law_task" s_law_task (p.FA 28) fd := T.t.fn_ 39 28 s_law_task rfl rfl
theorem Txt.f_law_texts (T : Txt w p mg) : ∃ fd, Fun p.K "_law_texts" "_law_texts" s_law_texts (p.FA 29) fd := T.t.fn_ 40 29 s_law_texts rfl rfl
theorem Txt.f_law_scan (T : Txt w p mg) : ∃ fd, Fun p.K "_law_scan" "_law_scan" s_law_scan (p.FA 30) fd := T.t.fn_ 41 30 s_law_scan rfl rfl
theorem Txt.f_law (T : Txt w p mg) : ∃ fd, Fun p.K "law" "law" s_law (p.FA 31) fd := T.t.fn_ 42 31 s_law rfl rfl
theorem sc_is_name : FnScope ["thing", "sign"] ["thing"] (defScope s_is_name) := ⟨rfl, rfl, rfl, by decide +kernel, rfl, by decide +kernel, by decide +kernel⟩
theorem fn_is_name (T : Txt w p mg) {f : Addr} {fd : FuncData} (Fu : Fun p.K "is_name" "is_name" s_is_name f fd) : FnOk PR w p.K mg base CX0 1 f fd ["thing"] (spF p 1 F_is_name) :=
  fn_ok Fu sc_is_name (fun cdv A outer s H E hr g =>
      (ss_cons (s_if (w_or (t_not (t_val (r_blt (c_isInst g.hK) (by rfl) T.z_isinstance (by decide +kernel) (a_cons (rv 0) (a_cons (r_bltn (v := .ty "str") (y := .ty "str") (by rfl) T.z_str (by decide +kernel) rfl (fun _ _ => by simp [RV])) a_nil))))) (w_or (t_not (t_chain oc_le oc_le r_int (r_blt (c_len g.hK) (by rfl) T.z_len (by decide +kernel) (a_cons (rv 0) a_nil)) (r_cst (by rfl) T.c_MOST_SIGNS))) (w_or1 (t_cmp (oc_notIn g.hK g.hu) (r_ix g (rv 0) r_int) (r_cst (by rfl) T.c_LETTERS) (by rfl))))).pt (ss_one (s_ret r_bl)) ss_nil)
      (ss_one (s_ret (r_and (r_blt (c_all g) (by rfl) T.z_all (by decide +kernel) (a_cons (r_lst (l_comp (own := [(Str.ofString "sign", 1)]) g (i_any g (rv 0)) (blkOk_by (by kernel_rfl)) (fun _ _ _ _ _ g => (gn g 1)) (fun _ _ _ _ _ g => t_yes) (fun _ _ _ _ _ g => (r_cmp (oc_in g.hK g.hu) (rv 1) (r_bin (ov_add g.hK) (r_cst (by rfl) T.c_LETTERS) (r_cst (by rfl) T.c_DIGITS)) (by rfl))) (by decide))) a_nil)) (r_one (r_cmp (oc_notIn g.hK g.hu) (rv 0) (r_cst (by rfl) T.c_RESERVED) (by rfl)))))))) sim_is_name
theorem ok_is_name (T : Txt w p mg) : FnAt p PR w mg base "is_name" 1 1 F_is_name :=
  let ⟨fd, Fu⟩ := T.f_is_name
  ⟨_, fd, _, T.g_is_name, fn_is_name T Fu, Fu.kp, Fu.binds (fun _ _ _ _ _ _ us hl => match us, hl with | [_], _ => rfl)⟩
theorem sc_Scan_init : FnScope ["self", "text"] ["self", "text"] (defScope s_Scan_init) := ⟨rfl, rfl, rfl, by decide +kernel, rfl, by decide +kernel, by decide +kernel⟩
theorem fn_Scan_init (T : Txt w p mg) {f : Addr} {fd : FuncData} (Fu : Fun p.K "__init__" "Scan.__init__" s_Scan_init f fd) : FnOk PR w p.K mg base CX0 1 f fd ["self", "text"] (spF p 2 F_Scan_init) :=
  fn_ok Fu sc_Scan_init (fun cdv A outer s H E hr g =>
      (ss_cons (s_fld (cl := 1) (fld := "text") g T.k_Scan T.n_Scan_text (rv 0) (rv 1))
      (ss_cons (s_fld (cl := 1) (fld := "at") g T.k_Scan T.n_Scan_at (rv 0) r_int)
      (ss_one (s_fld (cl := 1) (fld := "good") g T.k_Scan T.n_Scan_good (rv 0) r_bl))))) sim_Scan_init
theorem ok_Scan_init (T : Txt w p mg) : MakeAt p PR w mg base "Scan" 1 1 2 F_Scan_init :=
  let ⟨f, fd, hm, Fu⟩ := T.f_Scan_init
  ⟨f, fd, _, T.g_Scan, hm, fn_Scan_init T Fu, Fu.binds (fun _ _ _ _ _ _ us hl => match us, hl with | [_, _], _ => rfl)⟩
theorem sc_Scan_next_sign : FnScope ["self"] ["self"] (defScope s_Scan_next_sign) := ⟨rfl, rfl, rfl, by decide +kernel, rfl, by decide +kernel, by decide +kernel⟩
theorem fn_Scan_next_sign (T : Txt w p mg) {f : Addr} {fd : FuncData} (Fu : Fun p.K "next_sign" "Scan.next_sign" s_Scan_next_sign f fd) : FnOk PR w p.K mg base CX0 1 f fd ["self"] (spF p 1 F_Scan_next_sign) :=
  fn_ok Fu sc_Scan_next_sign (fun cdv A outer s H E hr g =>
      (ss_one (s_ret (r_sl g (r_fld (c := 1) (fld := "text") g T.k_Scan T.n_Scan_text (rv 0)) (o_some (r_fld (c := 1) (fld := "at") g T.k_Scan T.n_Scan_at (rv 0))) (o_some (r_bin (ov_add g.hK) (r_fld (c := 1) (fld := "at") g T.k_Scan T.n_Scan_at (rv 0)) r_int)))))) sim_Scan_next_sign
theorem ok_Scan_next_sign (T : Txt w p mg) : MethAt p PR w mg base 1 "next_sign" 1 1 F_Scan_next_sign :=
  let ⟨f, fd, hm, Fu⟩ := T.f_Scan_next_sign
  ⟨T.k_Scan, f, fd, _, hm, fn_Scan_next_sign T Fu, Fu.binds (fun _ _ _ _ _ _ us hl => match us, hl with | [_], _ => rfl)⟩
theorem sc_Scan_rest_run : FnScope ["self", "end"] ["self"] (defScope s_Scan_rest_run) := ⟨rfl, rfl, rfl, by decide +kernel, rfl, by decide +kernel, by decide +kernel⟩
theorem fn_Scan_rest_run (T : Txt w p mg) {f : Addr} {fd : FuncData} (Fu : Fun p.K "rest_run" "Scan.rest_run" s_Scan_rest_run f fd) : FnOk PR w p.K mg base CX0 1 f fd ["self"] (spF p 1 F_Scan_rest_run) :=
  fn_ok Fu sc_Scan_rest_run (fun cdv A outer s H E hr g =>
      (ss_cons (s_set (i := 1) g rfl (by first | exact .inl rfl | exact .inr rfl) (r_fld (c := 1) (fld := "at") g T.k_Scan T.n_Scan_at (rv 0)))
      (ss_cons (s_while (n := fuel) g (w_and (t_cmp oc_lt (rv 1) (r_blt (c_len g.hK) (by rfl) T.z_len (by decide +kernel) (a_cons (r_fld (c := 1) (fld := "text") g T.k_Scan T.n_Scan_text (rv 0)) a_nil)) (nomark _)) (w_and1 (t_cmp (oc_in g.hK g.hu) (r_ix g (r_fld (c := 1) (fld := "text") g T.k_Scan T.n_Scan_text (rv 0)) (rv 1)) (r_bin (ov_add g.hK) (r_cst (by rfl) T.c_LETTERS) (r_cst (by rfl) T.c_DIGITS)) (by rfl)))).pt (ss_one (s_aug (i := 1) g rfl (by first | exact .inl rfl | exact .inr rfl) r_int ip_addI)))
      (ss_one (s_ret (r_sl g (r_fld (c := 1) (fld := "text") g T.k_Scan T.n_Scan_text (rv 0)) (o_some (r_fld (c := 1) (fld := "at") g T.k_Scan T.n_Scan_at (rv 0))) (o_some (rv 1)))))))) sim_Scan_rest_run
theorem ok_Scan_rest_run (T : Txt w p mg) : MethAt p PR w mg base 1 "rest_run" 1 1 F_Scan_rest_run :=
  let ⟨f, fd, hm, Fu⟩ := T.f_Scan_rest_run
  ⟨T.k_Scan, f, fd, _, hm, fn_Scan_rest_run T Fu, Fu.binds (fun _ _ _ _ _ _ us hl => match us, hl with | [_], _ => rfl)⟩
theorem sc_Scan_take_word : FnScope ["self", "word", "sign"] ["self", "word"] (defScope s_Scan_take_word) := ⟨rfl, rfl, rfl, by decide +kernel, rfl, by decide +kernel, by decide +kernel⟩
theorem fn_Scan_take_word (T : Txt w p mg) {f : Addr} {fd : FuncData} (Fu : Fun p.K "take_word" "Scan.take_word" s_Scan_take_word f fd) : FnOk PR w p.K mg base CX0 2 f fd ["self", "word"] (spF p 2 F_Scan_take_word) :=
  fn_ok Fu sc_Scan_take_word (fun cdv A outer s H E hr g =>
      (ss_one (s_for g (i_any g (rv 1)) (gn g 2) (ss_cons (s_if (w_or (t_not (t_val (r_fld (c := 1) (fld := "good") g T.k_Scan T.n_Scan_good (rv 0)))) (w_or1 (t_cmp (oc_ne g.hK g.hu) (r_meth0 (mth := "next_sign") g (ok_Scan_next_sign T) (hr.mono (by decide)) (rv 0)) (rv 2) (nomark _)))).pt (ss_cons (s_fld (cl := 1) (fld := "good") g T.k_Scan T.n_Scan_good (rv 0) r_bl)
      (ss_one s_retN)) ss_nil)
      (ss_one (s_fldaug (cl := 1) (fld := "at") g T.k_Scan T.n_Scan_at (rv 0) r_int in_addI)))))) sim_Scan_take_word
theorem ok_Scan_take_word (T : Txt w p mg) : MethAt p PR w mg base 1 "take_word" 2 2 F_Scan_take_word :=
  let ⟨f, fd, hm, Fu⟩ := T.f_Scan_take_word
  ⟨T.k_Scan, f, fd, _, hm, fn_Scan_take_word T Fu, Fu.binds (fun _ _ _ _ _ _ us hl => match us, hl with | [_, _], _ => rfl)⟩
theorem sc_Scan_take_name : FnScope ["self", "run"] ["self"] (defScope s_Scan_take_name) := ⟨rfl, rfl, rfl, by decide +kernel, rfl, by decide +kernel, by decide +kernel⟩
theorem fn_Scan_take_name (T : Txt w p mg) {f : Addr} {fd : FuncData} (Fu : Fun p.K "take_name" "Scan.take_name" s_Scan_take_name f fd) : FnOk PR w p.K mg base CX0 2 f fd ["self"] (spF p 1 F_Scan_take_name) :=
  fn_ok Fu sc_Scan_take_name (fun cdv A outer s H E hr g =>
      (ss_cons (s_set (i := 1) g rfl (by first | exact .inl rfl | exact .inr rfl) (r_meth0 (mth := "rest_run") g (ok_Scan_rest_run T) (hr.mono (by decide)) (rv 0)))
      (ss_cons (s_if (w_or (t_not (t_val (r_fld (c := 1) (fld := "good") g T.k_Scan T.n_Scan_good (rv 0)))) (w_or (t_cmp (oc_eq g.hK g.hu) (rv 1) (r_str (l := []) (by decide +kernel)) (nomark _)) (w_or1 (t_cmp (oc_in g.hK g.hu) (r_ix g (rv 1) r_int) (r_cst (by rfl) T.c_DIGITS) (by rfl))))).pt (ss_cons (s_fld (cl := 1) (fld := "good") g T.k_Scan T.n_Scan_good (rv 0) r_bl)
      (ss_one (s_ret (r_str (l := []) (by decide +kernel))))) ss_nil)
      (ss_cons (s_fldaug (cl := 1) (fld := "at") g T.k_Scan T.n_Scan_at (rv 0) (r_blt (c_min g.calm) (by rfl) T.z_min (by decide +kernel) (a_cons (r_blt (c_len g.hK) (by rfl) T.z_len (by decide +kernel) (a_cons (rv 1) a_nil)) (a_cons (r_cst (by rfl) T.c_MOST_SIGNS) a_nil))) in_addI)
      (ss_cons (s_fld (cl := 1) (fld := "good") g T.k_Scan T.n_Scan_good (rv 0) (r_and (r_cmp oc_le (r_blt (c_len g.hK) (by rfl) T.z_len (by decide +kernel) (a_cons (rv 1) a_nil)) (r_cst (by rfl) T.c_MOST_SIGNS) (nomark _)) (r_one (r_cmp (oc_notIn g.hK g.hu) (rv 1) (r_cst (by rfl) T.c_RESERVED) (by rfl)))))
      (ss_one (s_ret (rv 1)))))))) sim_Scan_take_name
theorem ok_Scan_take_name (T : Txt w p mg) : MethAt p PR w mg base 1 "take_name" 2 1 F_Scan_take_name :=
  let ⟨f, fd, hm, Fu⟩ := T.f_Scan_take_name
  ⟨T.k_Scan, f, fd, _, hm, fn_Scan_take_name T Fu, Fu.binds (fun _ _ _ _ _ _ us hl => match us, hl with | [_], _ => rfl)⟩
theorem sc_Scan_take_signs : FnScope ["self", "signs", "least", "most", "many"] ["self", "signs", "least", "most"] (defScope s_Scan_take_signs) := ⟨rfl, rfl, rfl, by decide +kernel, rfl, by decide +kernel, by decide +kernel⟩
theorem fn_Scan_take_signs (T : Txt w p mg) {f : Addr} {fd : FuncData} (Fu : Fun p.K "take_signs" "Scan.take_signs" s_Scan_take_signs f fd) : FnOk PR w p.K mg base CX0 2 f fd ["self", "signs", "least", "most"] (spF p 4 F_Scan_take_signs) :=
  fn_ok Fu sc_Scan_take_signs (fun cdv A outer s H E hr g =>
      (ss_cons (s_set (i := 4) g rfl (by first | exact .inl rfl | exact .inr rfl) r_int)
      (ss_cons (s_while (n := fuel) g (w_and (t_val (r_fld (c := 1) (fld := "good") g T.k_Scan T.n_Scan_good (rv 0))) (w_and (t_cmp oc_lt (rv 4) (rv 3) (nomark _)) (w_and (t_cmp (oc_ne g.hK g.hu) (r_meth0 (mth := "next_sign") g (ok_Scan_next_sign T) (hr.mono (by decide)) (rv 0)) (r_str (l := []) (by decide +kernel)) (nomark _)) (w_and1 (t_cmp (oc_in g.hK g.hu) (r_meth0 (mth := "next_sign") g (ok_Scan_next_sign T) (hr.mono (by decide)) (rv 0)) (rv 1) (by rfl)))))).pt (ss_cons (s_fldaug (cl := 1) (fld := "at") g T.k_Scan T.n_Scan_at (rv 0) r_int in_addI)
      (ss_one (s_aug (i := 4) g rfl (by first | exact .inl rfl | exact .inr rfl) r_int ip_addI))))
      (ss_cons (s_fld (cl := 1) (fld := "good") g T.k_Scan T.n_Scan_good (rv 0) (r_and (r_fld (c := 1) (fld := "good") g T.k_Scan T.n_Scan_good (rv 0)) (r_one (r_cmp oc_ge (rv 4) (rv 2) (nomark _)))))
      (ss_one (s_ret (r_sl g (r_fld (c := 1) (fld := "text") g T.k_Scan T.n_Scan_text (rv 0)) (o_some (r_bin ov_sub (r_fld (c := 1) (fld := "at") g T.k_Scan T.n_Scan_at (rv 0)) (rv 4))) (o_some (r_fld (c := 1) (fld := "at") g T.k_Scan T.n_Scan_at (rv 0)))))))))) sim_Scan_take_signs
theorem ok_Scan_take_signs (T : Txt w p mg) : MethAt p PR w mg base 1 "take_signs" 2 4 F_Scan_take_signs :=
  let ⟨f, fd, hm, Fu⟩ := T.f_Scan_take_signs
  ⟨T.k_Scan, f, fd, _, hm, fn_Scan_take_signs T Fu, Fu.binds (fun _ _ _ _ _ _ us hl => match us, hl with | [_, _, _, _], _ => rfl)⟩
theorem sc_is_beginning : FnScope ["run", "most", "sign"] ["run", "most"] (defScope s_is_beginning) := ⟨rfl, rfl, rfl, by decide +kernel, rfl, by decide +kernel, by decide +kernel⟩
theorem fn_is_beginning (T : Txt w p mg) {f : Addr} {fd : FuncData} (Fu : Fun p.K "is_beginning" "is_beginning" s_is_beginning f fd) : FnOk PR w p.K mg base CX0 1 f fd ["run", "most"] (spF p 2 F_is_beginning) :=
  fn_ok Fu sc_is_beginning (fun cdv A outer s H E hr g =>
      (ss_cons (s_if (w_or (t_not (t_val (r_blt (c_all g) (by rfl) T.z_all (by decide +kernel) (a_cons (r_lst (l_comp (own := [(Str.ofString "sign", 2)]) g (i_any g (rv 0)) (blkOk_by (by kernel_rfl)) (fun _ _ _ _ _ g => (gn g 2)) (fun _ _ _ _ _ g => t_yes) (fun _ _ _ _ _ g => (r_cmp (oc_in g.hK g.hu) (rv 2) (r_cst (by rfl) T.c_DIGITS) (by rfl))) (by decide))) a_nil)))) (w_or1 (w_and (t_cmp (oc_eq g.hK g.hu) (r_ix g (rv 0) r_int) (r_str (l := [48]) (by decide +kernel)) (nomark _)) (w_and1 (t_cmp (oc_ne g.hK g.hu) (rv 0) (r_str (l := [48]) (by decide +kernel)) (nomark _)))).pt)).pt (ss_one (s_ret r_bl)) ss_nil)
      (ss_one (s_ret (r_cmp oc_le (r_bty c_int (by rfl) T.z_int (by decide +kernel) (a_cons (rv 0) a_nil)) (rv 1) (nomark _)))))) sim_is_beginning
theorem ok_is_beginning (T : Txt w p mg) : FnAt p PR w mg base "is_beginning" 1 2 F_is_beginning :=
  let ⟨fd, Fu⟩ := T.f_is_beginning
  ⟨_, fd, _, T.g_is_beginning, fn_is_beginning T Fu, Fu.kp, Fu.binds (fun _ _ _ _ _ _ us hl => match us, hl with | [_, _], _ => rfl)⟩
theorem sc_Scan_take_count : FnScope ["self", "most", "run", "many"] ["self", "most"] (defScope s_Scan_take_count) := ⟨rfl, rfl, rfl, by decide +kernel, rfl, by decide +kernel, by decide +kernel⟩
theorem fn_Scan_take_count (T : Txt w p mg) {f : Addr} {fd : FuncData} (Fu : Fun p.K "take_count" "Scan.take_count" s_Scan_take_count f fd) : FnOk PR w p.K mg base CX0 2 f fd ["self", "most"] (spF p 2 F_Scan_take_count) :=
  fn_ok Fu sc_Scan_take_count (fun cdv A outer s H E hr g =>
      (ss_cons (s_set (i := 2) g rfl (by first | exact .inl rfl | exact .inr rfl) (r_meth0 (mth := "rest_run") g (ok_Scan_rest_run T) (hr.mono (by decide)) (rv 0)))
      (ss_cons (s_set (i := 3) g rfl (by first | exact .inl rfl | exact .inr rfl) r_int)
      (ss_cons (s_while (n := fuel) g (w_and (t_cmp oc_lt (rv 3) (r_blt (c_len g.hK) (by rfl) T.z_len (by decide +kernel) (a_cons (rv 2) a_nil)) (nomark _)) (w_and1 (t_val (r_call g (ok_is_beginning T) (hr.mono (by decide)) (by rfl) (a_cons (r_sl g (rv 2) o_none (o_some (r_bin (ov_add g.hK) (rv 3) r_int))) (a_cons (rv 1) a_nil)))))).pt (ss_one (s_aug (i := 3) g rfl (by first | exact .inl rfl | exact .inr rfl) r_int ip_addI)))
      (ss_cons (s_fldaug (cl := 1) (fld := "at") g T.k_Scan T.n_Scan_at (rv 0) (r_if (t_val (r_fld (c := 1) (fld := "good") g T.k_Scan T.n_Scan_good (rv 0))) (rv 3) r_int) in_addI)
      (ss_cons (s_fld (cl := 1) (fld := "good") g T.k_Scan T.n_Scan_good (rv 0) (r_and (r_fld (c := 1) (fld := "good") g T.k_Scan T.n_Scan_good (rv 0)) (r_and (r_cmp oc_gt (rv 3) r_int (nomark _)) (r_one (r_cmp (oc_eq g.hK g.hu) (rv 3) (r_blt (c_len g.hK) (by rfl) T.z_len (by decide +kernel) (a_cons (rv 2) a_nil)) (nomark _))))))
      (ss_one (s_ret (r_if (t_val (r_fld (c := 1) (fld := "good") g T.k_Scan T.n_Scan_good (rv 0))) (r_bty c_int (by rfl) T.z_int (by decide +kernel) (a_cons (rv 2) a_nil)) r_int))))))))) sim_Scan_take_count
theorem ok_Scan_take_count (T : Txt w p mg) : MethAt p PR w mg base 1 "take_count" 2 2 F_Scan_take_count :=
  let ⟨f, fd, hm, Fu⟩ := T.f_Scan_take_count
  ⟨T.k_Scan, f, fd, _, hm, fn_Scan_take_count T Fu, Fu.binds (fun _ _ _ _ _ _ us hl => match us, hl with | [_, _], _ => rfl)⟩
theorem sc_Scan_take_end : FnScope ["self"] ["self"] (defScope s_Scan_take_end) := ⟨rfl, rfl, rfl, by decide +kernel, rfl, by decide +kernel, by decide +kernel⟩
theorem fn_Scan_take_end (T : Txt w p mg) {f : Addr} {fd : FuncData} (Fu : Fun p.K "take_end" "Scan.take_end" s_Scan_take_end f fd) : FnOk PR w p.K mg base CX0 1 f fd ["self"] (spF p 1 F_Scan_take_end) :=
  fn_ok Fu sc_Scan_take_end (fun cdv A outer s H E hr g =>
      (ss_one (s_fld (cl := 1) (fld := "good") g T.k_Scan T.n_Scan_good (rv 0) (r_and (r_fld (c := 1) (fld := "good") g T.k_Scan T.n_Scan_good (rv 0)) (r_one (r_cmp (oc_eq g.hK g.hu) (r_fld (c := 1) (fld := "at") g T.k_Scan T.n_Scan_at (rv 0)) (r_blt (c_len g.hK) (by rfl) T.z_len (by decide +kernel) (a_cons (r_fld (c := 1) (fld := "text") g T.k_Scan T.n_Scan_text (rv 0)) a_nil)) (nomark _))))))) sim_Scan_take_end
theorem ok_Scan_take_end (T : Txt w p mg) : MethAt p PR w mg base 1 "take_end" 1 1 F_Scan_take_end :=
  let ⟨f, fd, hm, Fu⟩ := T.f_Scan_take_end
  ⟨T.k_Scan, f, fd, _, hm, fn_Scan_take_end T Fu, Fu.binds (fun _ _ _ _ _ _ us hl => match us, hl with | [_], _ => rfl)⟩
theorem sc_take_ring : FnScope ["scan"] ["scan"] (defScope s_take_ring) := ⟨rfl, rfl, rfl, by decide +kernel, rfl, by decide +kernel, by decide +kernel⟩
theorem fn_take_ring (T : Txt w p mg) {f : Addr} {fd : FuncData} (Fu : Fun p.K "take_ring" "take_ring" s_take_ring f fd) : FnOk PR w p.K mg base CX0 3 f fd ["scan"] (spF p 1 F_take_ring) :=
  fn_ok Fu sc_take_ring (fun cdv A outer s H E hr g =>
      (ss_cons (s_expr (r_meth (mth := "take_word") g (ok_Scan_take_word T) (hr.mono (by decide)) (rv 0) (a_cons (r_str (l := [114, 105, 110, 103, 32]) (by decide +kernel)) a_nil)))
      (ss_one (s_ret (r_tup (a_cons (r_str (l := [114, 105, 110, 103]) (by decide +kernel)) (a_cons (r_meth0 (mth := "take_name") g (ok_Scan_take_name T) (hr.mono (by decide)) (rv 0)) a_nil))))))) sim_take_ring
theorem ok_take_ring (T : Txt w p mg) : FnAt p PR w mg base "take_ring" 3 1 F_take_ring :=
  let ⟨fd, Fu⟩ := T.f_take_ring
  ⟨_, fd, _, T.g_take_ring, fn_take_ring T Fu, Fu.kp, Fu.binds (fun _ _ _ _ _ _ us hl => match us, hl with | [_], _ => rfl)⟩
theorem sc_take_cells : FnScope ["scan"] ["scan"] (defScope s_take_cells) := ⟨rfl, rfl, rfl, by decide +kernel, rfl, by decide +kernel, by decide +kernel⟩
theorem fn_take_cells (T : Txt w p mg) {f : Addr} {fd : FuncData} (Fu : Fun p.K "take_cells" "take_cells" s_take_cells f fd) : FnOk PR w p.K mg base CX0 3 f fd ["scan"] (spF p 1 F_take_cells) :=
  fn_ok Fu sc_take_cells (fun cdv A outer s H E hr g =>
      (ss_cons (s_expr (r_meth (mth := "take_word") g (ok_Scan_take_word T) (hr.mono (by decide)) (rv 0) (a_cons (r_str (l := [99, 101, 108, 108, 115, 32]) (by decide +kernel)) a_nil)))
      (ss_one (s_ret (r_tup (a_cons (r_str (l := [99, 101, 108, 108, 115]) (by decide +kernel)) (a_cons (r_meth (mth := "take_signs") g (ok_Scan_take_signs T) (hr.mono (by decide)) (rv 0) (a_cons (r_cst (by rfl) T.c_MARKS) (a_cons (r_cst (by rfl) T.c_LEAST_CELLS) (a_cons (r_cst (by rfl) T.c_MOST_CELLS) a_nil)))) a_nil))))))) sim_take_cells
theorem ok_take_cells (T : Txt w p mg) : FnAt p PR w mg base "take_cells" 3 1 F_take_cells :=
  let ⟨fd, Fu⟩ := T.f_take_cells
  ⟨_, fd, _, T.g_take_cells, fn_take_cells T Fu, Fu.kp, Fu.binds (fun _ _ _ _ _ _ us hl => match us, hl with | [_], _ => rfl)⟩
theorem sc_take_bin : FnScope ["scan", "name"] ["scan"] (defScope s_take_bin) := ⟨rfl, rfl, rfl, by decide +kernel, rfl, by decide +kernel, by decide +kernel⟩
theorem fn_take_bin (T : Txt w p mg) {f : Addr} {fd : FuncData} (Fu : Fun p.K "take_bin" "take_bin" s_take_bin f fd) : FnOk PR w p.K mg base CX0 3 f fd ["scan"] (spF p 1 F_take_bin) :=
  fn_ok Fu sc_take_bin (fun cdv A outer s H E hr g =>
      (ss_cons (s_expr (r_meth (mth := "take_word") g (ok_Scan_take_word T) (hr.mono (by decide)) (rv 0) (a_cons (r_str (l := [98, 105, 110, 32]) (by decide +kernel)) a_nil)))
      (ss_cons (s_set (i := 1) g rfl (by first | exact .inl rfl | exact .inr rfl) (r_meth0 (mth := "take_name") g (ok_Scan_take_name T) (hr.mono (by decide)) (rv 0)))
      (ss_cons (s_expr (r_meth (mth := "take_word") g (ok_Scan_take_word T) (hr.mono (by decide)) (rv 0) (a_cons (r_str (l := [32, 97, 116, 32]) (by decide +kernel)) a_nil)))
      (ss_one (s_ret (r_tup (a_cons (r_str (l := [98, 105, 110]) (by decide +kernel)) (a_cons (rv 1) (a_cons (r_meth (mth := "take_count") g (ok_Scan_take_count T) (hr.mono (by decide)) (rv 0) (a_cons (r_bin ov_sub (r_cst (by rfl) T.c_MOST_CELLS) r_int) a_nil)) a_nil)))))))))) sim_take_bin
theorem ok_take_bin (T : Txt w p mg) : FnAt p PR w mg base "take_bin" 3 1 F_take_bin :=
  let ⟨fd, Fu⟩ := T.f_take_bin
  ⟨_, fd, _, T.g_take_bin, fn_take_bin T Fu, Fu.kp, Fu.binds (fun _ _ _ _ _ _ us hl => match us, hl with | [_], _ => rfl)⟩
theorem sc_take_head : FnScope ["scan", "word", "name"] ["scan", "word"] (defScope s_take_head) := ⟨rfl, rfl, rfl, by decide +kernel, rfl, by decide +kernel, by decide +kernel⟩
theorem fn_take_head (T : Txt w p mg) {f : Addr} {fd : FuncData} (Fu : Fun p.K "take_head" "take_head" s_take_head f fd) : FnOk PR w p.K mg base CX0 3 f fd ["scan", "word"] (spF p 2 F_take_head) :=
  fn_ok Fu sc_take_head (fun cdv A outer s H E hr g =>
      (ss_cons (s_expr (r_meth (mth := "take_word") g (ok_Scan_take_word T) (hr.mono (by decide)) (rv 0) (a_cons (r_joined (j_cons (r_fmt (rv 1)) (j_cons (r_str (l := [32]) (by decide +kernel)) j_nil))) a_nil)))
      (ss_cons (s_set (i := 2) g rfl (by first | exact .inl rfl | exact .inr rfl) (r_meth0 (mth := "take_name") g (ok_Scan_take_name T) (hr.mono (by decide)) (rv 0)))
      (ss_cons (s_expr (r_meth (mth := "take_word") g (ok_Scan_take_word T) (hr.mono (by decide)) (rv 0) (a_cons (r_str (l := [32, 111, 110, 32]) (by decide +kernel)) a_nil)))
      (ss_one (s_ret (r_tup (a_cons (rv 1) (a_cons (rv 2) (a_cons (r_meth0 (mth := "take_name") g (ok_Scan_take_name T) (hr.mono (by decide)) (rv 0)) a_nil)))))))))) sim_take_head
theorem ok_take_head (T : Txt w p mg) : FnAt p PR w mg base "take_head" 3 2 F_take_head :=
  let ⟨fd, Fu⟩ := T.f_take_head
  ⟨_, fd, _, T.g_take_head, fn_take_head T Fu, Fu.kp, Fu.binds (fun _ _ _ _ _ _ us hl => match us, hl with | [_, _], _ => rfl)⟩
theorem sc_take_job : FnScope ["scan"] ["scan"] (defScope s_take_job) := ⟨rfl, rfl, rfl, by decide +kernel, rfl, by decide +kernel, by decide +kernel⟩
theorem fn_take_job (T : Txt w p mg) {f : Addr} {fd : FuncData} (Fu : Fun p.K "take_job" "take_job" s_take_job f fd) : FnOk PR w p.K mg base CX0 4 f fd ["scan"] (spF p 1 F_take_job) :=
  fn_ok Fu sc_take_job (fun cdv A outer s H E hr g =>
      (ss_one (s_ret (r_call g (ok_take_head T) (hr.mono (by decide)) (by rfl) (a_cons (rv 0) (a_cons (r_str (l := [106, 111, 98]) (by decide +kernel)) a_nil)))))) sim_take_job
theorem ok_take_job (T : Txt w p mg) : FnAt p PR w mg base "take_job" 4 1 F_take_job :=
  let ⟨fd, Fu⟩ := T.f_take_job
  ⟨_, fd, _, T.g_take_job, fn_take_job T Fu, Fu.kp, Fu.binds (fun _ _ _ _ _ _ us hl => match us, hl with | [_], _ => rfl)⟩
theorem sc_take_day : FnScope ["scan"] ["scan"] (defScope s_take_day) := ⟨rfl, rfl, rfl, by decide +kernel, rfl, by decide +kernel, by decide +kernel⟩
theorem fn_take_day (T : Txt w p mg) {f : Addr} {fd : FuncData} (Fu : Fun p.K "take_day" "take_day" s_take_day f fd) : FnOk PR w p.K mg base CX0 4 f fd ["scan"] (spF p 1 F_take_day) :=
  fn_ok Fu sc_take_day (fun cdv A outer s H E hr g =>
      (ss_one (s_ret (r_call g (ok_take_head T) (hr.mono (by decide)) (by rfl) (a_cons (rv 0) (a_cons (r_str (l := [100, 97, 121]) (by decide +kernel)) a_nil)))))) sim_take_day
theorem ok_take_day (T : Txt w p mg) : FnAt p PR w mg base "take_day" 4 1 F_take_day :=
  let ⟨fd, Fu⟩ := T.f_take_day
  ⟨_, fd, _, T.g_take_day, fn_take_day T Fu, Fu.kp, Fu.binds (fun _ _ _ _ _ _ us hl => match us, hl with | [_], _ => rfl)⟩
theorem sc_take_carry : FnScope ["scan", "first"] ["scan"] (defScope s_take_carry) := ⟨rfl, rfl, rfl, by decide +kernel, rfl, by decide +kernel, by decide +kernel⟩
theorem fn_take_carry (T : Txt w p mg) {f : Addr} {fd : FuncData} (Fu : Fun p.K "take_carry" "take_carry" s_take_carry f fd) : FnOk PR w p.K mg base CX0 3 f fd ["scan"] (spF p 1 F_take_carry) :=
  fn_ok Fu sc_take_carry (fun cdv A outer s H E hr g =>
      (ss_cons (s_expr (r_meth (mth := "take_word") g (ok_Scan_take_word T) (hr.mono (by decide)) (rv 0) (a_cons (r_str (l := [99, 97, 114, 114, 121, 32]) (by decide +kernel)) a_nil)))
      (ss_cons (s_set (i := 1) g rfl (by first | exact .inl rfl | exact .inr rfl) (r_meth0 (mth := "take_name") g (ok_Scan_take_name T) (hr.mono (by decide)) (rv 0)))
      (ss_cons (s_expr (r_meth (mth := "take_word") g (ok_Scan_take_word T) (hr.mono (by decide)) (rv 0) (a_cons (r_str (l := [32, 116, 111, 32]) (by decide +kernel)) a_nil)))
      (ss_one (s_ret (r_tup (a_cons (r_str (l := [99, 97, 114, 114, 121]) (by decide +kernel)) (a_cons (rv 1) (a_cons (r_meth0 (mth := "take_name") g (ok_Scan_take_name T) (hr.mono (by decide)) (rv 0)) a_nil)))))))))) sim_take_carry
theorem ok_take_carry (T : Txt w p mg) : FnAt p PR w mg base "take_carry" 3 1 F_take_carry :=
  let ⟨fd, Fu⟩ := T.f_take_carry
  ⟨_, fd, _, T.g_take_carry, fn_take_carry T Fu, Fu.kp, Fu.binds (fun _ _ _ _ _ _ us hl => match us, hl with | [_], _ => rfl)⟩
theorem sc_take_do : FnScope ["scan"] ["scan"] (defScope s_take_do) := ⟨rfl, rfl, rfl, by decide +kernel, rfl, by decide +kernel, by decide +kernel⟩
theorem fn_take_do (T : Txt w p mg) {f : Addr} {fd : FuncData} (Fu : Fun p.K "take_do" "take_do" s_take_do f fd) : FnOk PR w p.K mg base CX0 3 f fd ["scan"] (spF p 1 F_take_do) :=
  fn_ok Fu sc_take_do (fun cdv A outer s H E hr g =>
      (ss_cons (s_expr (r_meth (mth := "take_word") g (ok_Scan_take_word T) (hr.mono (by decide)) (rv 0) (a_cons (r_str (l := [100, 111, 32]) (by decide +kernel)) a_nil)))
      (ss_one (s_ret (r_tup (a_cons (r_str (l := [100, 111]) (by decide +kernel)) (a_cons (r_meth0 (mth := "take_name") g (ok_Scan_take_name T) (hr.mono (by decide)) (rv 0)) a_nil))))))) sim_take_do
theorem ok_take_do (T : Txt w p mg) : FnAt p PR w mg base "take_do" 3 1 F_take_do :=
  let ⟨fd, Fu⟩ := T.f_take_do
  ⟨_, fd, _, T.g_take_do, fn_take_do T Fu, Fu.kp, Fu.binds (fun _ _ _ _ _ _ us hl => match us, hl with | [_], _ => rfl)⟩
theorem sc_take_last : FnScope ["scan"] ["scan"] (defScope s_take_last) := ⟨rfl, rfl, rfl, by decide +kernel, rfl, by decide +kernel, by decide +kernel⟩
theorem fn_take_last (T : Txt w p mg) {f : Addr} {fd : FuncData} (Fu : Fun p.K "take_last" "take_last" s_take_last f fd) : FnOk PR w p.K mg base CX0 3 f fd ["scan"] (spF p 1 F_take_last) :=
  fn_ok Fu sc_take_last (fun cdv A outer s H E hr g =>
      (ss_cons (s_expr (r_meth (mth := "take_word") g (ok_Scan_take_word T) (hr.mono (by decide)) (rv 0) (a_cons (r_str (l := [108, 97, 115, 116, 32]) (by decide +kernel)) a_nil)))
      (ss_one (s_ret (r_tup (a_cons (r_str (l := [108, 97, 115, 116]) (by decide +kernel)) (a_cons (r_meth (mth := "take_count") g (ok_Scan_take_count T) (hr.mono (by decide)) (rv 0) (a_cons (r_bin ov_sub (r_cst (by rfl) T.c_MOST_CELLS) r_int) a_nil)) a_nil))))))) sim_take_last
theorem ok_take_last (T : Txt w p mg) : FnAt p PR w mg base "take_last" 3 1 F_take_last :=
  let ⟨fd, Fu⟩ := T.f_take_last
  ⟨_, fd, _, T.g_take_last, fn_take_last T Fu, Fu.kp, Fu.binds (fun _ _ _ _ _ _ us hl => match us, hl with | [_], _ => rfl)⟩
theorem sc_take_cuts : FnScope ["scan"] ["scan"] (defScope s_take_cuts) := ⟨rfl, rfl, rfl, by decide +kernel, rfl, by decide +kernel, by decide +kernel⟩
theorem fn_take_cuts (T : Txt w p mg) {f : Addr} {fd : FuncData} (Fu : Fun p.K "take_cuts" "take_cuts" s_take_cuts f fd) : FnOk PR w p.K mg base CX0 3 f fd ["scan"] (spF p 1 F_take_cuts) :=
  fn_ok Fu sc_take_cuts (fun cdv A outer s H E hr g =>
      (ss_cons (s_expr (r_meth (mth := "take_word") g (ok_Scan_take_word T) (hr.mono (by decide)) (rv 0) (a_cons (r_str (l := [99, 117, 116, 115, 32]) (by decide +kernel)) a_nil)))
      (ss_one (s_ret (r_tup (a_cons (r_str (l := [99, 117, 116, 115]) (by decide +kernel)) (a_cons (r_meth (mth := "take_count") g (ok_Scan_take_count T) (hr.mono (by decide)) (rv 0) (a_cons (r_cst (by rfl) T.c_MOST_CUTS) a_nil)) a_nil))))))) sim_take_cuts
theorem ok_take_cuts (T : Txt w p mg) : FnAt p PR w mg base "take_cuts" 3 1 F_take_cuts :=
  let ⟨fd, Fu⟩ := T.f_take_cuts
  ⟨_, fd, _, T.g_take_cuts, fn_take_cuts T Fu, Fu.kp, Fu.binds (fun _ _ _ _ _ _ us hl => match us, hl with | [_], _ => rfl)⟩
theorem sc_take_close : FnScope ["scan"] ["scan"] (defScope s_take_close) := ⟨rfl, rfl, rfl, by decide +kernel, rfl, by decide +kernel, by decide +kernel⟩
theorem fn_take_close (T : Txt w p mg) {f : Addr} {fd : FuncData} (Fu : Fun p.K "take_close" "take_close" s_take_close f fd) : FnOk PR w p.K mg base CX0 3 f fd ["scan"] (spF p 1 F_take_close) :=
  fn_ok Fu sc_take_close (fun cdv A outer s H E hr g =>
      (ss_cons (s_expr (r_meth (mth := "take_word") g (ok_Scan_take_word T) (hr.mono (by decide)) (rv 0) (a_cons (r_str (l := [101, 110, 100]) (by decide +kernel)) a_nil)))
      (ss_one (s_ret (r_tup (a_cons (r_str (l := [101, 110, 100]) (by decide +kernel)) a_nil)))))) sim_take_close
theorem ok_take_close (T : Txt w p mg) : FnAt p PR w mg base "take_close" 3 1 F_take_close :=
  let ⟨fd, Fu⟩ := T.f_take_close
  ⟨_, fd, _, T.g_take_close, fn_take_close T Fu, Fu.kp, Fu.binds (fun _ _ _ _ _ _ us hl => match us, hl with | [_], _ => rfl)⟩
theorem tb_shapes (T : Txt w p mg) : HeldT p PR w mg base 4 tbl_shapes := ⟨fun j n F h => by
  simp only [tbl_shapes, shOf] at h
  by_cases h5 : j = 5
  · subst h5
    simp only [Option.map_some, Option.some.injEq, Prod.mk.injEq] at h
    obtain ⟨rfl, rfl⟩ := h
    exact held_of (ok_take_bin T) 5 T.g_take_bin (by decide)
  by_cases h9 : j = 9
  · subst h9
    simp only [Option.map_some, Option.some.injEq, Prod.mk.injEq] at h
    obtain ⟨rfl, rfl⟩ := h
    exact held_of (ok_take_carry T) 9 T.g_take_carry (by decide)
  by_cases h4 : j = 4
  · subst h4
    simp only [Option.map_some, Option.some.injEq, Prod.mk.injEq] at h
    obtain ⟨rfl, rfl⟩ := h
    exact held_of (ok_take_cells T) 4 T.g_take_cells (by decide)
  by_cases h12 : j = 12
  · subst h12
    simp only [Option.map_some, Option.some.injEq, Prod.mk.injEq] at h
    obtain ⟨rfl, rfl⟩ := h
    exact held_of (ok_take_cuts T) 12 T.g_take_cuts (by decide)
  by_cases h8 : j = 8
  · subst h8
    simp only [Option.map_some, Option.some.injEq, Prod.mk.injEq] at h
    obtain ⟨rfl, rfl⟩ := h
    exact held_of (ok_take_day T) 8 T.g_take_day (by decide)
  by_cases h10 : j = 10
  · subst h10
    simp only [Option.map_some, Option.some.injEq, Prod.mk.injEq] at h
    obtain ⟨rfl, rfl⟩ := h
    exact held_of (ok_take_do T) 10 T.g_take_do (by decide)
  by_cases h13 : j = 13
  · subst h13
    simp only [Option.map_some, Option.some.injEq, Prod.mk.injEq] at h
    obtain ⟨rfl, rfl⟩ := h
    exact held_of (ok_take_close T) 13 T.g_take_close (by decide)
  by_cases h7 : j = 7
  · subst h7
    simp only [Option.map_some, Option.some.injEq, Prod.mk.injEq] at h
    obtain ⟨rfl, rfl⟩ := h
    exact held_of (ok_take_job T) 7 T.g_take_job (by decide)
  by_cases h11 : j = 11
  · subst h11
    simp only [Option.map_some, Option.some.injEq, Prod.mk.injEq] at h
    obtain ⟨rfl, rfl⟩ := h
    exact held_of (ok_take_last T) 11 T.g_take_last (by decide)
  by_cases h3 : j = 3
  · subst h3
    simp only [Option.map_some, Option.some.injEq, Prod.mk.injEq] at h
    obtain ⟨rfl, rfl⟩ := h
    exact held_of (ok_take_ring T) 3 T.g_take_ring (by decide)
  simp_all⟩
theorem sc_fitted : FnScope ["text", "shapes", "reached", "shape", "scan", "value"] ["text", "shapes"] (defScope s_fitted) := ⟨rfl, rfl, rfl, by decide +kernel, rfl, by decide +kernel, by decide +kernel⟩
theorem fn_fitted (T : Txt w p mg) {f : Addr} {fd : FuncData} (Fu : Fun p.K "fitted" "fitted" s_fitted f fd) : FnOk PR w p.K mg base CX0 5 f fd ["text", "shapes"] (spF p 2 F_fitted) :=
  fn_ok Fu sc_fitted (fun cdv A outer s H E hr g =>
      (ss_cons (s_set (i := 2) g rfl (by first | exact .inl rfl | exact .inr rfl) r_int)
      (ss_cons (s_for g (i_any g (rv 1)) (gn g 3) (ss_cons (s_set (i := 4) g rfl (by first | exact .inl rfl | exact .inr rfl) (r_make g (ok_Scan_init T) (hr.mono (by decide)) (by rfl) (a_cons (rv 0) a_nil)))
      (ss_cons (s_set (i := 5) g rfl (by first | exact .inl rfl | exact .inr rfl) (r_callV g (tb_shapes T) (hr.mono (by decide)) (i := 3) rfl (by first | exact .inl rfl | exact .inr (.inl rfl) | exact .inr (.inr rfl)) (a_cons (rv 4) a_nil)))
      (ss_cons (s_expr (r_meth0 (mth := "take_end") g (ok_Scan_take_end T) (hr.mono (by decide)) (rv 4)))
      (ss_cons (s_if (t_val (r_fld (c := 1) (fld := "good") g T.k_Scan T.n_Scan_good (rv 4))) (ss_one (s_ret (r_tup (a_cons (rv 5) (a_cons r_int a_nil))))) ss_nil)
      (ss_one (s_set (i := 2) g rfl (by first | exact .inl rfl | exact .inr rfl) (r_blt (c_max g.calm) (by rfl) T.z_max (by decide +kernel) (a_cons (rv 2) (a_cons (r_fld (c := 1) (fld := "at") g T.k_Scan T.n_Scan_at (rv 4)) a_nil))))))))))
      (ss_one (s_ret (r_tup (a_cons r_non (a_cons (rv 2) a_nil)))))))) sim_fitted
theorem ok_fitted (T : Txt w p mg) : FnAt p PR w mg base "fitted" 5 2 F_fitted :=
  let ⟨fd, Fu⟩ := T.f_fitted
  ⟨_, fd, _, T.g_fitted, fn_fitted T Fu, Fu.kp, Fu.binds (fun _ _ _ _ _ _ us hl => match us, hl with | [_, _], _ => rfl)⟩
theorem sc_Reading_init : FnScope ["self", "text"] ["self", "text"] (defScope s_Reading_init) := ⟨rfl, rfl, rfl, by decide +kernel, rfl, by decide +kernel, by decide +kernel⟩
theorem fn_Reading_init (T : Txt w p mg) {f : Addr} {fd : FuncData} (Fu : Fun p.K "__init__" "Reading.__init__" s_Reading_init f fd) : FnOk PR w p.K mg base CX0 1 f fd ["self", "text"] (spF p 2 F_Reading_init) :=
  fn_ok Fu sc_Reading_init (fun cdv A outer s H E hr g =>
      (ss_cons (s_fld (cl := 15) (fld := "lines") g T.k_Reading T.n_Reading_lines (rv 0) (r_bm g PySem.F.plainAttrs_str PySem.F.slot_str_split PySem.F.type_str_split m_split (rv 1) (a_cons (r_str (l := [10]) (by decide +kernel)) a_nil)))
      (ss_one (s_fld (cl := 15) (fld := "ahead") g T.k_Reading T.n_Reading_ahead (rv 0) r_int)))) sim_Reading_init
theorem ok_Reading_init (T : Txt w p mg) : MakeAt p PR w mg base "Reading" 15 1 2 F_Reading_init :=
  let ⟨f, fd, hm, Fu⟩ := T.f_Reading_init
  ⟨f, fd, _, T.g_Reading, hm, fn_Reading_init T Fu, Fu.binds (fun _ _ _ _ _ _ us hl => match us, hl with | [_, _], _ => rfl)⟩
theorem sc_Reading_take_row : FnScope ["self", "shapes", "value", "reached"] ["self", "shapes"] (defScope s_Reading_take_row) := ⟨rfl, rfl, rfl, by decide +kernel, rfl, by decide +kernel, by decide +kernel⟩
theorem fn_Reading_take_row (T : Txt w p mg) {f : Addr} {fd : FuncData} (Fu : Fun p.K "take_row" "Reading.take_row" s_Reading_take_row f fd) : FnOk PR w p.K mg base CX0 6 f fd ["self", "shapes"] (spF p 2 F_Reading_take_row) :=
  fn_ok Fu sc_Reading_take_row (fun cdv A outer s H E hr g =>
      (ss_cons (s_if (t_cmp (oc_eq g.hK g.hu) (r_fld (c := 15) (fld := "ahead") g T.k_Reading T.n_Reading_ahead (rv 0)) (r_blt (c_len g.hK) (by rfl) T.z_len (by decide +kernel) (a_cons (r_fld (c := 15) (fld := "lines") g T.k_Reading T.n_Reading_lines (rv 0)) a_nil)) (nomark _)) (ss_one s_never) ss_nil)
      (ss_cons (s_asg (r_call g (ok_fitted T) (hr.mono (by decide)) (by rfl) (a_cons (r_ix g (r_fld (c := 15) (fld := "lines") g T.k_Reading T.n_Reading_lines (rv 0)) (r_fld (c := 15) (fld := "ahead") g T.k_Reading T.n_Reading_ahead (rv 0))) (a_cons (rv 1) a_nil))) (g_tup (n := 0) g (gs_cons (gn g 2) (gs_cons (gn g 3) gs_nil))))
      (ss_cons (s_fldaug (cl := 15) (fld := "ahead") g T.k_Reading T.n_Reading_ahead (rv 0) r_int in_addI)
      (ss_cons (s_if (t_cmp oc_is (rv 2) r_non (nomark _)) (ss_one s_never) ss_nil)
      (ss_one (s_ret (rv 2)))))))) sim_Reading_take_row
theorem ok_Reading_take_row (T : Txt w p mg) : MethAt p PR w mg base 15 "take_row" 6 2 F_Reading_take_row :=
  let ⟨f, fd, hm, Fu⟩ := T.f_Reading_take_row
  ⟨T.k_Reading, f, fd, _, hm, fn_Reading_take_row T Fu, Fu.binds (fun _ _ _ _ _ _ us hl => match us, hl with | [_, _], _ => rfl)⟩
theorem sc_Reading_are_left : FnScope ["self"] ["self"] (defScope s_Reading_are_left) := ⟨rfl, rfl, rfl, by decide +kernel, rfl, by decide +kernel, by decide +kernel⟩
theorem fn_Reading_are_left (T : Txt w p mg) {f : Addr} {fd : FuncData} (Fu : Fun p.K "are_left" "Reading.are_left" s_Reading_are_left f fd) : FnOk PR w p.K mg base CX0 1 f fd ["self"] (spF p 1 F_Reading_are_left) :=
  fn_ok Fu sc_Reading_are_left (fun cdv A outer s H E hr g =>
      (ss_one (s_ret (r_cmp oc_lt (r_fld (c := 15) (fld := "ahead") g T.k_Reading T.n_Reading_ahead (rv 0)) (r_blt (c_len g.hK) (by rfl) T.z_len (by decide +kernel) (a_cons (r_fld (c := 15) (fld := "lines") g T.k_Reading T.n_Reading_lines (rv 0)) a_nil)) (nomark _))))) sim_Reading_are_left
theorem ok_Reading_are_left (T : Txt w p mg) : MethAt p PR w mg base 15 "are_left" 1 1 F_Reading_are_left :=
  let ⟨f, fd, hm, Fu⟩ := T.f_Reading_are_left
  ⟨T.k_Reading, f, fd, _, hm, fn_Reading_are_left T Fu, Fu.binds (fun _ _ _ _ _ _ us hl => match us, hl with | [_], _ => rfl)⟩
theorem sc_Reading_take_ring_behind : FnScope ["self", "head", "word", "found", "value"] ["self", "head"] (defScope s_Reading_take_ring_behind) := ⟨rfl, rfl, rfl, by decide +kernel, rfl, by decide +kernel, by decide +kernel⟩
theorem fn_Reading_take_ring_behind (T : Txt w p mg) {f : Addr} {fd : FuncData} (Fu : Fun p.K "take_ring_behind" "Reading.take_ring_behind" s_Reading_take_ring_behind f fd) : FnOk PR w p.K mg base CX0 7 f fd ["self", "head"] (spF p 2 F_Reading_take_ring_behind) :=
  fn_ok Fu sc_Reading_take_ring_behind (fun cdv A outer s H E hr g =>
      (ss_cons (s_set (i := 2) g rfl (by first | exact .inl rfl | exact .inr rfl) (r_ix g (r_meth (mth := "take_row") g (ok_Reading_take_row T) (hr.mono (by decide)) (rv 0) (a_cons (r_tup (a_cons (r_cst (by rfl) T.v_take_cells) a_nil)) a_nil)) r_int))
      (ss_cons (s_par2 (i := 3) (j := 4) g rfl rfl (by decide) rfl rfl (a_cons (r_alloc (l_disp a_nil)) (a_cons (r_meth (mth := "take_row") g (ok_Reading_take_row T) (hr.mono (by decide)) (rv 0) (a_cons (r_tup (a_cons (r_cst (by rfl) T.v_take_bin) (a_cons (r_cst (by rfl) T.v_take_close) a_nil))) a_nil)) a_nil)) (by rfl))
      (ss_cons (s_while (n := fuel) g (t_cmp (oc_eq g.hK g.hu) (r_ix g (rv 4) r_int) (r_str (l := [98, 105, 110]) (by decide +kernel)) (nomark _)) (ss_cons (s_expr (r_bm g PySem.F.plainAttrs_list PySem.F.slot_list_append PySem.F.type_list_append m_append (rv 3) (a_cons (r_sl g (rv 4) (o_some r_int) o_none) a_nil)))
      (ss_one (s_set (i := 4) g rfl (by first | exact .inl rfl | exact .inr rfl) (r_meth (mth := "take_row") g (ok_Reading_take_row T) (hr.mono (by decide)) (rv 0) (a_cons (r_tup (a_cons (r_cst (by rfl) T.v_take_bin) (a_cons (r_cst (by rfl) T.v_take_close) a_nil))) a_nil))))))
      (ss_one (s_ret (r_tup (a_cons (r_ix g (rv 1) r_int) (a_cons (rv 2) (a_cons (r_bty (c_tuple g.hK) (by rfl) T.z_tuple (by decide +kernel) (a_cons (rv 3) a_nil)) a_nil)))))))))) sim_Reading_take_ring_behind
theorem ok_Reading_take_ring_behind (T : Txt w p mg) : MethAt p PR w mg base 15 "take_ring_behind" 7 2 F_Reading_take_ring_behind :=
  let ⟨f, fd, hm, Fu⟩ := T.f_Reading_take_ring_behind
  ⟨T.k_Reading, f, fd, _, hm, fn_Reading_take_ring_behind T Fu, Fu.binds (fun _ _ _ _ _ _ us hl => match us, hl with | [_, _], _ => rfl)⟩
theorem sc_Reading_take_rows_behind : FnScope ["self", "head", "shape", "last", "rows", "found", "value", "row"] ["self", "head", "shape"] (defScope s_Reading_take_rows_behind) := ⟨rfl, rfl, rfl, by decide +kernel, rfl, by decide +kernel, by decide +kernel⟩
theorem fn_Reading_take_rows_behind (T : Txt w p mg) {f : Addr} {fd : FuncData} (Fu : Fun p.K "take_rows_behind" "Reading.take_rows_behind" s_Reading_take_rows_behind f fd) : FnOk PR w p.K mg base CX0 7 f fd ["self", "head", "shape"] (spF p 3 F_Reading_take_rows_behind) :=
  fn_ok Fu sc_Reading_take_rows_behind (fun cdv A outer s H E hr g =>
      (ss_cons (s_par2 (i := 5) (j := 6) g rfl rfl (by decide) rfl rfl (a_cons (r_alloc (l_disp (a_cons (r_sl g (r_meth (mth := "take_row") g (ok_Reading_take_row T) (hr.mono (by decide)) (rv 0) (a_cons (r_tup (a_cons (rv 2) a_nil)) a_nil)) (o_some r_int) o_none) a_nil))) (a_cons (r_meth (mth := "take_row") g (ok_Reading_take_row T) (hr.mono (by decide)) (rv 0) (a_cons (r_tup (a_cons (rv 2) (a_cons (r_cst (by rfl) T.v_take_last) (a_cons (r_cst (by rfl) T.v_take_cuts) a_nil)))) a_nil)) a_nil)) (by rfl))
      (ss_cons (s_while (n := fuel) g (t_cmp (oc_notIn g.hK g.hu) (r_ix g (rv 6) r_int) (r_tup (a_cons (r_str (l := [108, 97, 115, 116]) (by decide +kernel)) (a_cons (r_str (l := [99, 117, 116, 115]) (by decide +kernel)) a_nil))) (by rfl)) (ss_cons (s_expr (r_bm g PySem.F.plainAttrs_list PySem.F.slot_list_append PySem.F.type_list_append m_append (rv 5) (a_cons (r_sl g (rv 6) (o_some r_int) o_none) a_nil)))
      (ss_one (s_set (i := 6) g rfl (by first | exact .inl rfl | exact .inr rfl) (r_meth (mth := "take_row") g (ok_Reading_take_row T) (hr.mono (by decide)) (rv 0) (a_cons (r_tup (a_cons (rv 2) (a_cons (r_cst (by rfl) T.v_take_last) (a_cons (r_cst (by rfl) T.v_take_cuts) a_nil)))) a_nil))))))
      (ss_cons (s_set (i := 3) g rfl (by first | exact .inl rfl | exact .inr rfl) r_non)
      (ss_cons (s_if (t_cmp (oc_eq g.hK g.hu) (r_ix g (rv 6) r_int) (r_str (l := [108, 97, 115, 116]) (by decide +kernel)) (nomark _)) (ss_one (s_par2 (i := 3) (j := 6) g rfl rfl (by decide) rfl rfl (a_cons (r_ix g (rv 6) r_int) (a_cons (r_meth (mth := "take_row") g (ok_Reading_take_row T) (hr.mono (by decide)) (rv 0) (a_cons (r_tup (a_cons (r_cst (by rfl) T.v_take_cuts) a_nil)) a_nil)) a_nil)) (by rfl))) ss_nil)
      (ss_cons (s_expr (r_meth (mth := "take_row") g (ok_Reading_take_row T) (hr.mono (by decide)) (rv 0) (a_cons (r_tup (a_cons (r_cst (by rfl) T.v_take_close) a_nil)) a_nil)))
      (ss_cons (s_set (i := 4) g rfl (by first | exact .inl rfl | exact .inr rfl) (r_if (t_cmp (oc_eq g.hK g.hu) (r_ix g (rv 1) r_int) (r_str (l := [106, 111, 98]) (by decide +kernel)) (nomark _)) (r_bty (c_tuple g.hK) (by rfl) T.z_tuple (by decide +kernel) (a_cons (rv 5) a_nil)) (r_bty (c_tuple g.hK) (by rfl) T.z_tuple (by decide +kernel) (a_cons (r_lst (l_comp (own := [(Str.ofString "row", 7)]) g (i_any g (rv 5)) (blkOk_by (by kernel_rfl)) (fun _ _ _ _ _ g => (gn g 7)) (fun _ _ _ _ _ g => t_yes) (fun _ _ _ _ _ g => (r_ix g (rv 7) r_int)) (by decide))) a_nil))))
      (ss_one (s_ret (r_tup (a_cons (r_ix g (rv 1) r_int) (a_cons (r_ix g (rv 1) r_int) (a_cons (rv 4) (a_cons (rv 3) (a_cons (r_ix g (rv 6) r_int) a_nil))))))))))))))) sim_Reading_take_rows_behind
theorem ok_Reading_take_rows_behind (T : Txt w p mg) : MethAt p PR w mg base 15 "take_rows_behind" 7 3 F_Reading_take_rows_behind :=
  let ⟨f, fd, hm, Fu⟩ := T.f_Reading_take_rows_behind
  ⟨T.k_Reading, f, fd, _, hm, fn_Reading_take_rows_behind T Fu, Fu.binds (fun _ _ _ _ _ _ us hl => match us, hl with | [_, _, _], _ => rfl)⟩
theorem sc_read_text : FnScope ["text", "reading", "found", "sort", "head", "some"] ["text"] (defScope s_read_text) := ⟨rfl, rfl, rfl, by decide +kernel, rfl, by decide +kernel, by decide +kernel⟩
theorem fn_read_text (T : Txt w p mg) {f : Addr} {fd : FuncData} (Fu : Fun p.K "read_text" "read_text" s_read_text f fd) : FnOk PR w p.K mg base CX0 8 f fd ["text"] (spF p 1 F_read_text) :=
  fn_ok Fu sc_read_text (fun cdv A outer s H E hr g =>
      (ss_cons (s_par3 (i := 1) (j := 2) (l := 3) g rfl rfl rfl (by decide) (by decide) (by decide) rfl rfl rfl (a_cons (r_make g (ok_Reading_init T) (hr.mono (by decide)) (by rfl) (a_cons (rv 0) a_nil)) (a_cons (r_tup (a_cons (r_alloc (l_disp a_nil)) (a_cons (r_alloc (l_disp a_nil)) (a_cons (r_alloc (l_disp a_nil)) a_nil)))) (a_cons r_int a_nil))) (by rfl))
      (ss_cons (s_while (n := fuel) g (t_val (r_meth0 (mth := "are_left") g (ok_Reading_are_left T) (hr.mono (by decide)) (rv 1))) (ss_cons (s_set (i := 4) g rfl (by first | exact .inl rfl | exact .inr rfl) (r_meth (mth := "take_row") g (ok_Reading_take_row T) (hr.mono (by decide)) (rv 1) (a_cons (r_sl g (r_cst (by rfl) T.c_HEADS) (o_some (rv 3)) o_none) a_nil)))
      (ss_cons (s_set (i := 3) g rfl (by first | exact .inl rfl | exact .inr rfl) (r_dcst g (by rfl) T.d_SORTS vd_SORTS_is (r_ix g (rv 4) r_int)))
      (ss_one (s_if (t_cmp (oc_eq g.hK g.hu) (rv 3) r_int (nomark _)) (ss_one (s_expr (r_bm g PySem.F.plainAttrs_list PySem.F.slot_list_append PySem.F.type_list_append m_append (r_ix g (rv 2) r_int) (a_cons (r_meth (mth := "take_ring_behind") g (ok_Reading_take_ring_behind T) (hr.mono (by decide)) (rv 1) (a_cons (rv 4) a_nil)) a_nil)))) (ss_one (s_expr (r_bm g PySem.F.plainAttrs_list PySem.F.slot_list_append PySem.F.type_list_append m_append (r_ix g (rv 2) (rv 3)) (a_cons (r_meth (mth := "take_rows_behind") g (ok_Reading_take_rows_behind T) (hr.mono (by decide)) (rv 1) (a_cons (rv 4) (a_cons (r_if (t_cmp (oc_eq g.hK g.hu) (rv 3) r_int (nomark _)) (r_cst (by rfl) T.v_take_carry) (r_cst (by rfl) T.v_take_do)) a_nil))) a_nil)))))))))
      (ss_one (s_ret (r_bty (c_tuple g.hK) (by rfl) T.z_tuple (by decide +kernel) (a_cons (r_lst (l_comp (own := [(Str.ofString "some", 5)]) g (i_any g (rv 2)) (blkOk_by (by kernel_rfl)) (fun _ _ _ _ _ g => (gn g 5)) (fun _ _ _ _ _ g => t_yes) (fun _ _ _ _ _ g => (r_bty (c_tuple g.hK) (by rfl) T.z_tuple (by decide +kernel) (a_cons (rv 5) a_nil))) (by decide))) a_nil))))))) sim_read_text
theorem ok_read_text (T : Txt w p mg) : FnAt p PR w mg base "read_text" 8 1 F_read_text :=
  let ⟨fd, Fu⟩ := T.f_read_text
  ⟨_, fd, _, T.g_read_text, fn_read_text T Fu, Fu.kp, Fu.binds (fun _ _ _ _ _ _ us hl => match us, hl with | [_], _ => rfl)⟩
theorem sc_ring_lines : FnScope ["ring", "name", "word", "bins", "its", "cell"] ["ring"] (defScope s_ring_lines) := ⟨rfl, rfl, rfl, by decide +kernel, rfl, by decide +kernel, by decide +kernel⟩
theorem fn_ring_lines (T : Txt w p mg) {f : Addr} {fd : FuncData} (Fu : Fun p.K "ring_lines" "ring_lines" s_ring_lines f fd) : FnOk PR w p.K mg base CX0 1 f fd ["ring"] (spF p 1 F_ring_lines) :=
  fn_ok Fu sc_ring_lines (fun cdv A outer s H E hr g =>
      (ss_cons (s_asg (rv 0) (g_tup (n := 0) g (gs_cons (gn g 1) (gs_cons (gn g 2) (gs_cons (gn g 3) gs_nil)))))
      (ss_one (s_ret (r_lst (l_disp (a_cons (r_joined (j_cons (r_str (l := [114, 105, 110, 103, 32]) (by decide +kernel)) (j_cons (r_fmt (rv 1)) j_nil))) (a_cons (r_joined (j_cons (r_str (l := [99, 101, 108, 108, 115, 32]) (by decide +kernel)) (j_cons (r_fmt (rv 2)) j_nil))) (a_star g (r_lst (l_comp (own := [(Str.ofString "its", 4), (Str.ofString "cell", 5)]) g (i_any g (rv 3)) (blkOk_by (by kernel_rfl)) (fun _ _ _ _ _ g => (g_tup (n := 0) g (gs_cons (gn g 4) (gs_cons (gn g 5) gs_nil)))) (fun _ _ _ _ _ g => t_yes) (fun _ _ _ _ _ g => (r_joined (j_cons (r_str (l := [98, 105, 110, 32]) (by decide +kernel)) (j_cons (r_fmt (rv 4)) (j_cons (r_str (l := [32, 97, 116, 32]) (by decide +kernel)) (j_cons (r_fmt (rv 5)) j_nil)))))) (by decide))) (a_cons (r_str (l := [101, 110, 100]) (by decide +kernel)) a_nil)))))))))) sim_ring_lines
theorem ok_ring_lines (T : Txt w p mg) : FnAt p PR w mg base "ring_lines" 1 1 F_ring_lines :=
  let ⟨fd, Fu⟩ := T.f_ring_lines
  ⟨_, fd, _, T.g_ring_lines, fn_ring_lines T Fu, Fu.kp, Fu.binds (fun _ _ _ _ _ _ us hl => match us, hl with | [_], _ => rfl)⟩
theorem sc_end_lines : FnScope ["last", "cuts", "found"] ["last", "cuts"] (defScope s_end_lines) := ⟨rfl, rfl, rfl, by decide +kernel, rfl, by decide +kernel, by decide +kernel⟩
theorem fn_end_lines (T : Txt w p mg) {f : Addr} {fd : FuncData} (Fu : Fun p.K "end_lines" "end_lines" s_end_lines f fd) : FnOk PR w p.K mg base CX0 1 f fd ["last", "cuts"] (spF p 2 F_end_lines) :=
  fn_ok Fu sc_end_lines (fun cdv A outer s H E hr g =>
      (ss_cons (s_set (i := 2) g rfl (by first | exact .inl rfl | exact .inr rfl) (r_if (t_cmp oc_is (rv 0) r_non (nomark _)) (r_lst (l_disp a_nil)) (r_lst (l_disp (a_cons (r_joined (j_cons (r_str (l := [108, 97, 115, 116, 32]) (by decide +kernel)) (j_cons (r_fmt (rv 0)) j_nil))) a_nil)))))
      (ss_one (s_ret (r_lst (l_disp (a_star g (rv 2) (a_cons (r_joined (j_cons (r_str (l := [99, 117, 116, 115, 32]) (by decide +kernel)) (j_cons (r_fmt (rv 1)) j_nil))) (a_cons (r_str (l := [101, 110, 100]) (by decide +kernel)) a_nil))))))))) sim_end_lines
theorem ok_end_lines (T : Txt w p mg) : FnAt p PR w mg base "end_lines" 1 2 F_end_lines :=
  let ⟨fd, Fu⟩ := T.f_end_lines
  ⟨_, fd, _, T.g_end_lines, fn_end_lines T Fu, Fu.kp, Fu.binds (fun _ _ _ _ _ _ us hl => match us, hl with | [_, _], _ => rfl)⟩
theorem sc_job_lines : FnScope ["job", "name", "ring", "carries", "last", "cuts", "one", "other"] ["job"] (defScope s_job_lines) := ⟨rfl, rfl, rfl, by decide +kernel, rfl, by decide +kernel, by decide +kernel⟩
theorem fn_job_lines (T : Txt w p mg) {f : Addr} {fd : FuncData} (Fu : Fun p.K "job_lines" "job_lines" s_job_lines f fd) : FnOk PR w p.K mg base CX0 2 f fd ["job"] (spF p 1 F_job_lines) :=
  fn_ok Fu sc_job_lines (fun cdv A outer s H E hr g =>
      (ss_cons (s_asg (rv 0) (g_tup (n := 0) g (gs_cons (gn g 1) (gs_cons (gn g 2) (gs_cons (gn g 3) (gs_cons (gn g 4) (gs_cons (gn g 5) gs_nil)))))))
      (ss_one (s_ret (r_lst (l_disp (a_cons (r_joined (j_cons (r_str (l := [106, 111, 98, 32]) (by decide +kernel)) (j_cons (r_fmt (rv 1)) (j_cons (r_str (l := [32, 111, 110, 32]) (by decide +kernel)) (j_cons (r_fmt (rv 2)) j_nil))))) (a_star g (r_lst (l_comp (own := [(Str.ofString "one", 6), (Str.ofString "other", 7)]) g (i_any g (rv 3)) (blkOk_by (by kernel_rfl)) (fun _ _ _ _ _ g => (g_tup (n := 0) g (gs_cons (gn g 6) (gs_cons (gn g 7) gs_nil)))) (fun _ _ _ _ _ g => t_yes) (fun _ _ _ _ _ g => (r_joined (j_cons (r_str (l := [99, 97, 114, 114, 121, 32]) (by decide +kernel)) (j_cons (r_fmt (rv 6)) (j_cons (r_str (l := [32, 116, 111, 32]) (by decide +kernel)) (j_cons (r_fmt (rv 7)) j_nil)))))) (by decide))) (a_star g (r_call g (ok_end_lines T) (hr.mono (by decide)) (by rfl) (a_cons (rv 4) (a_cons (rv 5) a_nil))) a_nil))))))))) sim_job_lines
theorem ok_job_lines (T : Txt w p mg) : FnAt p PR w mg base "job_lines" 2 1 F_job_lines :=
  let ⟨fd, Fu⟩ := T.f_job_lines
  ⟨_, fd, _, T.g_job_lines, fn_job_lines T Fu, Fu.kp, Fu.binds (fun _ _ _ _ _ _ us hl => match us, hl with | [_], _ => rfl)⟩
theorem sc_day_lines : FnScope ["day", "name", "ring", "jobs", "last", "cuts", "job"] ["day"] (defScope s_day_lines) := ⟨rfl, rfl, rfl, by decide +kernel, rfl, by decide +kernel, by decide +kernel⟩
theorem fn_day_lines (T : Txt w p mg) {f : Addr} {fd : FuncData} (Fu : Fun p.K "day_lines" "day_lines" s_day_lines f fd) : FnOk PR w p.K mg base CX0 2 f fd ["day"] (spF p 1 F_day_lines) :=
  fn_ok Fu sc_day_lines (fun cdv A outer s H E hr g =>
      (ss_cons (s_asg (rv 0) (g_tup (n := 0) g (gs_cons (gn g 1) (gs_cons (gn g 2) (gs_cons (gn g 3) (gs_cons (gn g 4) (gs_cons (gn g 5) gs_nil)))))))
      (ss_one (s_ret (r_lst (l_disp (a_cons (r_joined (j_cons (r_str (l := [100, 97, 121, 32]) (by decide +kernel)) (j_cons (r_fmt (rv 1)) (j_cons (r_str (l := [32, 111, 110, 32]) (by decide +kernel)) (j_cons (r_fmt (rv 2)) j_nil))))) (a_star g (r_lst (l_comp (own := [(Str.ofString "job", 6)]) g (i_any g (rv 3)) (blkOk_by (by kernel_rfl)) (fun _ _ _ _ _ g => (gn g 6)) (fun _ _ _ _ _ g => t_yes) (fun _ _ _ _ _ g => (r_joined (j_cons (r_str (l := [100, 111, 32]) (by decide +kernel)) (j_cons (r_fmt (rv 6)) j_nil)))) (by decide))) (a_star g (r_call g (ok_end_lines T) (hr.mono (by decide)) (by rfl) (a_cons (rv 4) (a_cons (rv 5) a_nil))) a_nil))))))))) sim_day_lines
theorem ok_day_lines (T : Txt w p mg) : FnAt p PR w mg base "day_lines" 2 1 F_day_lines :=
  let ⟨fd, Fu⟩ := T.f_day_lines
  ⟨_, fd, _, T.g_day_lines, fn_day_lines T Fu, Fu.kp, Fu.binds (fun _ _ _ _ _ _ us hl => match us, hl with | [_], _ => rfl)⟩
theorem tb_lines (T : Txt w p mg) : HeldT p PR w mg base 2 tbl_lines := ⟨fun j n F h => by
  simp only [tbl_lines, lineOf] at h
  by_cases h17 : j = 17
  · subst h17
    simp only [Option.map_some, Option.some.injEq, Prod.mk.injEq] at h
    obtain ⟨rfl, rfl⟩ := h
    exact held_of (ok_ring_lines T) 17 T.g_ring_lines (by decide)
  by_cases h19 : j = 19
  · subst h19
    simp only [Option.map_some, Option.some.injEq, Prod.mk.injEq] at h
    obtain ⟨rfl, rfl⟩ := h
    exact held_of (ok_job_lines T) 19 T.g_job_lines (by decide)
  by_cases h20 : j = 20
  · subst h20
    simp only [Option.map_some, Option.some.injEq, Prod.mk.injEq] at h
    obtain ⟨rfl, rfl⟩ := h
    exact held_of (ok_day_lines T) 20 T.g_day_lines (by decide)
  simp_all⟩
theorem sc_text_lines : FnScope ["text", "found", "some", "lines", "one"] ["text"] (defScope s_text_lines) := ⟨rfl, rfl, rfl, by decide +kernel, rfl, by decide +kernel, by decide +kernel⟩
theorem fn_text_lines (T : Txt w p mg) {f : Addr} {fd : FuncData} (Fu : Fun p.K "text_lines" "text_lines" s_text_lines f fd) : FnOk PR w p.K mg base CX0 3 f fd ["text"] (spF p 1 F_text_lines) :=
  fn_ok Fu sc_text_lines (fun cdv A outer s H E hr g =>
      (ss_cons (s_set (i := 1) g rfl (by first | exact .inl rfl | exact .inr rfl) (r_alloc (l_disp a_nil)))
      (ss_cons (s_for g (i_zipL g (by rfl) T.z_zip (a_cons (rv 0) (a_cons (r_tup (a_cons (r_cst (by rfl) T.v_ring_lines) (a_cons (r_cst (by rfl) T.v_job_lines) (a_cons (r_cst (by rfl) T.v_day_lines) a_nil)))) a_nil))) (g_tup (n := 0) g (gs_cons (gn g 2) (gs_cons (gn g 3) gs_nil))) (ss_one (s_for g (i_any g (rv 2)) (gn g 4) (ss_one (s_expr (r_bm g PySem.F.plainAttrs_list PySem.F.slot_list_extend PySem.F.type_list_extend m_extend (rv 1) (a_cons (r_callV g (tb_lines T) (hr.mono (by decide)) (i := 3) rfl (by first | exact .inl rfl | exact .inr (.inl rfl) | exact .inr (.inr rfl)) (a_cons (rv 4) a_nil)) a_nil)))))))
      (ss_one (s_ret (rv 1)))))) sim_text_lines
theorem ok_text_lines (T : Txt w p mg) : FnAt p PR w mg base "text_lines" 3 1 F_text_lines :=
  let ⟨fd, Fu⟩ := T.f_text_lines
  ⟨_, fd, _, T.g_text_lines, fn_text_lines T Fu, Fu.kp, Fu.binds (fun _ _ _ _ _ _ us hl => match us, hl with | [_], _ => rfl)⟩
theorem sc_law_bag : FnScope ["script", "cell"] ["script"] (defScope s_law_bag) := ⟨rfl, rfl, rfl, by decide +kernel, rfl, by decide +kernel, by decide +kernel⟩
theorem fn_law_bag (T : Txt w p mg) {f : Addr} {fd : FuncData} (Fu : Fun p.K "_law_bag" "_law_bag" s_law_bag f fd) : FnOk PR w p.K mg base CX0 1 f fd ["script"] (spF p 1 F_law_bag) :=
  fn_ok Fu sc_law_bag (fun cdv A outer s H E hr g =>
      (ss_one (s_ret (r_alloc (l_disp (a_cons r_int (a_cons r_int (a_cons r_int (a_cons (r_lst (l_comp (own := [(Str.ofString "cell", 1)]) g (i_any g (r_sl g (rv 0) o_none (o_some r_int))) (blkOk_by (by kernel_rfl)) (fun _ _ _ _ _ g => (gn g 1)) (fun _ _ _ _ _ g => t_yes) (fun _ _ _ _ _ g => (r_blt c_abs (by rfl) T.z_abs (by decide +kernel) (a_cons (rv 1) a_nil))) (by decide))) a_nil))))))))) sim_law_bag
theorem ok_law_bag (T : Txt w p mg) : FnAt p PR w mg base "_law_bag" 1 1 F_law_bag :=
  let ⟨fd, Fu⟩ := T.f_law_bag
  ⟨_, fd, _, T.g_law_bag, fn_law_bag T Fu, Fu.kp, Fu.binds (fun _ _ _ _ _ _ us hl => match us, hl with | [_], _ => rfl)⟩
theorem sc_law_take : FnScope ["bag", "many", "first", "second", "cell", "stirred", "value"] ["bag", "many"] (defScope s_law_take) := ⟨rfl, rfl, rfl, by decide +kernel, rfl, by decide +kernel, by decide +kernel⟩
theorem fn_law_take (T : Txt w p mg) {f : Addr} {fd : FuncData} (Fu : Fun p.K "_law_take" "_law_take" s_law_take f fd) : FnOk PR w p.K mg base CX0 1 f fd ["bag", "many"] (spF p 2 F_law_take) :=
  fn_ok Fu sc_law_take (fun cdv A outer s H E hr g =>
      (ss_cons (s_if (t_cmp (oc_eq g.hK g.hu) (r_ix g (rv 0) r_int) r_int (nomark _)) (ss_cons (s_set (i := 4) g rfl (by first | exact .inl rfl | exact .inr rfl) (r_ix g (r_bin (ov_add g.hK) (r_sl g (r_ix g (rv 0) r_int) (o_some (r_ix g (rv 0) r_int)) o_none) (r_lst (l_disp (a_cons r_int a_nil)))) r_int))
      (ss_cons (s_augIx g (rv 0) r_int r_int ip_addI)
      (ss_cons (s_if (t_cmp oc_ge (rv 4) (r_bin ov_pow r_int r_int) (nomark _)) (ss_one (s_setIx g (rv 4) (rv 0) r_int)) ss_nil)
      (ss_cons (s_set (i := 5) g rfl (by first | exact .inl rfl | exact .inr rfl) (r_bin (ov_add g.hK) (r_bin (ov_add g.hK) (r_bin ov_mulA (r_ix g (rv 0) r_int) r_int) (r_bin ov_mod (r_bty c_int (by rfl) T.z_int (by decide +kernel) (a_cons (rv 4) a_nil)) r_int)) (r_bin ov_mulA r_int (r_ix g (rv 0) r_int))))
      (ss_one (s_setIx g (r_bin ov_mod (r_bty c_int (by rfl) T.z_int (by decide +kernel) (a_cons (rv 5) a_nil)) r_int) (rv 0) r_int)))))) ss_nil)
      (ss_cons (s_if (t_cmp oc_gt (r_ix g (rv 0) r_int) r_int (nomark _)) (ss_cons (s_set (i := 6) g rfl (by first | exact .inl rfl | exact .inr rfl) (r_bin ov_mod (r_bty c_int (by rfl) T.z_int (by decide +kernel) (a_cons (r_ix g (rv 0) r_int) a_nil)) (rv 1)))
      (ss_cons (s_setIx g (r_bin ov_div (r_bty c_int (by rfl) T.z_int (by decide +kernel) (a_cons (r_ix g (rv 0) r_int) a_nil)) (rv 1)) (rv 0) r_int)
      (ss_one (s_ret (rv 6))))) ss_nil)
      (ss_cons (s_set (i := 2) g rfl (by first | exact .inl rfl | exact .inr rfl) (r_bin ov_mod (r_bty c_int (by rfl) T.z_int (by decide +kernel) (a_cons (r_bin ov_mulA (r_bin (ov_add g.hK) (r_ix g (rv 0) r_int) r_int) r_int) a_nil)) r_int))
      (ss_cons (s_set (i := 3) g rfl (by first | exact .inl rfl | exact .inr rfl) (r_bin ov_mod (r_bty c_int (by rfl) T.z_int (by decide +kernel) (a_cons (r_bin ov_mulA (r_bin ov_mod (r_bty c_int (by rfl) T.z_int (by decide +kernel) (a_cons (r_bin ov_mulA (rv 2) (rv 2)) a_nil)) r_int) r_int) a_nil)) r_int))
      (ss_one (s_ret (r_bin ov_mod (r_bty c_int (by rfl) T.z_int (by decide +kernel) (a_cons (r_bin ov_div (rv 3) r_int) a_nil)) (rv 1))))))))) sim_law_take
theorem ok_law_take (T : Txt w p mg) : FnAt p PR w mg base "_law_take" 1 2 F_law_take :=
  let ⟨fd, Fu⟩ := T.f_law_take
  ⟨_, fd, _, T.g_law_take, fn_law_take T Fu, Fu.kp, Fu.binds (fun _ _ _ _ _ _ us hl => match us, hl with | [_, _], _ => rfl)⟩
theorem sc_law_some : FnScope ["bag", "things"] ["bag", "things"] (defScope s_law_some) := ⟨rfl, rfl, rfl, by decide +kernel, rfl, by decide +kernel, by decide +kernel⟩
theorem fn_law_some (T : Txt w p mg) {f : Addr} {fd : FuncData} (Fu : Fun p.K "_law_some" "_law_some" s_law_some f fd) : FnOk PR w p.K mg base CX0 2 f fd ["bag", "things"] (spF p 2 F_law_some) :=
  fn_ok Fu sc_law_some (fun cdv A outer s H E hr g =>
      (ss_one (s_ret (r_ix g (rv 1) (r_call g (ok_law_take T) (hr.mono (by decide)) (by rfl) (a_cons (rv 0) (a_cons (r_blt (c_len g.hK) (by rfl) T.z_len (by decide +kernel) (a_cons (rv 1) a_nil)) a_nil))))))) sim_law_some
theorem ok_law_some (T : Txt w p mg) : FnAt p PR w mg base "_law_some" 2 2 F_law_some :=
  let ⟨fd, Fu⟩ := T.f_law_some
  ⟨_, fd, _, T.g_law_some, fn_law_some T Fu, Fu.kp, Fu.binds (fun _ _ _ _ _ _ us hl => match us, hl with | [_, _], _ => rfl)⟩
theorem sc_law_turned : FnScope ["word", "many", "k"] ["word", "many"] (defScope s_law_turned) := ⟨rfl, rfl, rfl, by decide +kernel, rfl, by decide +kernel, by decide +kernel⟩
theorem fn_law_turned (T : Txt w p mg) {f : Addr} {fd : FuncData} (Fu : Fun p.K "_law_turned" "_law_turned" s_law_turned f fd) : FnOk PR w p.K mg base CX0 1 f fd ["word", "many"] (spF p 2 F_law_turned) :=
  fn_ok Fu sc_law_turned (fun cdv A outer s H E hr g =>
      (ss_one (s_ret (r_bm g PySem.F.plainAttrs_str PySem.F.slot_str_join PySem.F.type_str_join (m_join g.hK) (r_str (l := []) (by decide +kernel)) (a_cons (r_lst (l_comp (own := [(Str.ofString "k", 2)]) g (i_rng1 (by rfl) T.z_range (a_cons (r_blt (c_len g.hK) (by rfl) T.z_len (by decide +kernel) (a_cons (rv 0) a_nil)) a_nil)) (blkOk_by (by kernel_rfl)) (fun _ _ _ _ _ g => (gn g 2)) (fun _ _ _ _ _ g => t_yes) (fun _ _ _ _ _ g => (r_ix g (rv 0) (r_bin ov_mod (r_bin ov_sub (rv 2) (rv 1)) (r_blt (c_len g.hK) (by rfl) T.z_len (by decide +kernel) (a_cons (rv 0) a_nil))))) (by decide))) a_nil))))) sim_law_turned
theorem ok_law_turned (T : Txt w p mg) : FnAt p PR w mg base "_law_turned" 1 2 F_law_turned :=
  let ⟨fd, Fu⟩ := T.f_law_turned
  ⟨_, fd, _, T.g_law_turned, fn_law_turned T Fu, Fu.kp, Fu.binds (fun _ _ _ _ _ _ us hl => match us, hl with | [_, _], _ => rfl)⟩
theorem sc_law_leaving : FnScope ["word", "many"] ["word"] (defScope s_law_leaving) := ⟨rfl, rfl, rfl, by decide +kernel, rfl, by decide +kernel, by decide +kernel⟩
theorem fn_law_leaving (T : Txt w p mg) {f : Addr} {fd : FuncData} (Fu : Fun p.K "_law_leaving" "_law_leaving" s_law_leaving f fd) : FnOk PR w p.K mg base CX0 2 f fd ["word"] (spF p 1 F_law_leaving) :=
  fn_ok Fu sc_law_leaving (fun cdv A outer s H E hr g =>
      (ss_one (s_ret (r_lst (l_comp (own := [(Str.ofString "many", 1)]) g (i_rng2 (by rfl) T.z_range (a_cons r_int (a_cons (r_blt (c_len g.hK) (by rfl) T.z_len (by decide +kernel) (a_cons (rv 0) a_nil)) a_nil))) (blkOk_by (by kernel_rfl)) (fun _ _ _ _ _ g => (gn g 1)) (fun _ _ _ _ _ g => (t_one (t_cmp (oc_eq g.hK g.hu) (r_call g (ok_law_turned T) (hr.mono (by decide)) (by rfl) (a_cons (rv 0) (a_cons (rv 1) a_nil))) (rv 0) (nomark _)))) (fun _ _ _ _ _ g => (rv 1)) (by decide)))))) sim_law_leaving
theorem ok_law_leaving (T : Txt w p mg) : FnAt p PR w mg base "_law_leaving" 2 1 F_law_leaving :=
  let ⟨fd, Fu⟩ := T.f_law_leaving
  ⟨_, fd, _, T.g_law_leaving, fn_law_leaving T Fu, Fu.kp, Fu.binds (fun _ _ _ _ _ _ us hl => match us, hl with | [_], _ => rfl)⟩
theorem sc_law_word : FnScope ["bag", "least", "most", "size", "word", "k"] ["bag", "least", "most"] (defScope s_law_word) := ⟨rfl, rfl, rfl, by decide +kernel, rfl, by decide +kernel, by decide +kernel⟩
theorem fn_law_word (T : Txt w p mg) {f : Addr} {fd : FuncData} (Fu : Fun p.K "_law_word" "_law_word" s_law_word f fd) : FnOk PR w p.K mg base CX0 3 f fd ["bag", "least", "most"] (spF p 3 F_law_word) :=
  fn_ok Fu sc_law_word (fun cdv A outer s H E hr g =>
      (ss_cons (s_set (i := 3) g rfl (by first | exact .inl rfl | exact .inr rfl) (r_bin (ov_add g.hK) (rv 1) (r_call g (ok_law_take T) (hr.mono (by decide)) (by rfl) (a_cons (rv 0) (a_cons (r_bin (ov_add g.hK) (r_bin ov_sub (rv 2) (rv 1)) r_int) a_nil)))))
      (ss_cons (s_set (i := 4) g rfl (by first | exact .inl rfl | exact .inr rfl) (r_bm g PySem.F.plainAttrs_str PySem.F.slot_str_join PySem.F.type_str_join (m_join g.hK) (r_str (l := []) (by decide +kernel)) (a_cons (r_lst (l_comp (own := [(Str.ofString "k", 5)]) g (i_rng1 (by rfl) T.z_range (a_cons (rv 3) a_nil)) (blkOk_by (by kernel_rfl)) (fun _ _ _ _ _ g => (gn g 5)) (fun _ _ _ _ _ g => t_yes) (fun _ _ _ _ _ g => (r_call g (ok_law_some T) (hr.mono (by decide)) (by rfl) (a_cons (rv 0) (a_cons (r_lst (l_disp (a_cons (r_str (l := [97]) (by decide +kernel)) (a_cons (r_str (l := [97]) (by decide +kernel)) (a_cons (r_str (l := [98]) (by decide +kernel)) (a_cons (r_str (l := [98]) (by decide +kernel)) (a_cons (r_str (l := [99]) (by decide +kernel)) a_nil))))))) a_nil)))) (by decide))) a_nil)))
      (ss_cons (s_if (w_and (t_cmp oc_gt (r_call g (ok_law_take T) (hr.mono (by decide)) (by rfl) (a_cons (rv 0) (a_cons r_int a_nil))) r_int (nomark _)) (w_and1 (t_cmp (oc_ne g.hK g.hu) (r_call g (ok_law_leaving T) (hr.mono (by decide)) (by rfl) (a_cons (rv 4) a_nil)) (r_lst (l_disp a_nil)) (nomark _)))).pt (ss_one (s_set (i := 4) g rfl (by first | exact .inl rfl | exact .inr rfl) (r_if (t_cmp (oc_eq g.hK g.hu) (r_call g (ok_law_take T) (hr.mono (by decide)) (by rfl) (a_cons (rv 0) (a_cons r_int a_nil))) r_int (nomark _)) (r_bin (ov_add g.hK) (r_str (l := [99]) (by decide +kernel)) (r_sl g (r_bin ov_mulA (r_str (l := [97]) (by decide +kernel)) (r_blt (c_len g.hK) (by rfl) T.z_len (by decide +kernel) (a_cons (rv 4) a_nil))) (o_some r_int) o_none)) (r_bin (ov_add g.hK) (r_sl g (rv 4) o_none (o_some (r_neg r_int))) (r_if (t_cmp (oc_ne g.hK g.hu) (r_ix g (rv 4) (r_neg r_int)) (r_str (l := [99]) (by decide +kernel)) (nomark _)) (r_str (l := [99]) (by decide +kernel)) (r_str (l := [98]) (by decide +kernel))))))) ss_nil)
      (ss_one (s_ret (rv 4))))))) sim_law_word
theorem ok_law_word (T : Txt w p mg) : FnAt p PR w mg base "_law_word" 3 3 F_law_word :=
  let ⟨fd, Fu⟩ := T.f_law_word
  ⟨_, fd, _, T.g_law_word, fn_law_word T Fu, Fu.kp, Fu.binds (fun _ _ _ _ _ _ us hl => match us, hl with | [_, _, _], _ => rfl)⟩
theorem sc_law_task : FnScope ["bag", "word", "carries", "cuts", "k", "group", "last", "some", "groups", "one"] ["bag", "word", "carries", "cuts"] (defScope s_law_task) := ⟨rfl, rfl, rfl, by decide +kernel, rfl, by decide +kernel, by decide +kernel⟩
theorem fn_law_task (T : Txt w p mg) {f : Addr} {fd : FuncData} (Fu : Fun p.K "_law_task" "_law_task" s_law_task f fd) : FnOk PR w p.K mg base CX0 2 f fd ["bag", "word", "carries", "cuts"] (spF p 4 F_law_task) :=
  fn_ok Fu sc_law_task (fun cdv A outer s H E hr g =>
      (ss_cons (s_par2 (i := 7) (j := 8) g rfl rfl (by decide) rfl rfl (a_cons (r_alloc (l_disp a_nil)) (a_cons (r_alloc (l_disp a_nil)) a_nil)) (by rfl))
      (ss_cons (s_for g (i_rng1 (by rfl) T.z_range (a_cons (r_bin (ov_add g.hK) r_int (r_call g (ok_law_take T) (hr.mono (by decide)) (by rfl) (a_cons (rv 0) (a_cons (rv 2) a_nil)))) a_nil)) (gn g 4) (ss_cons (s_set (i := 9) g rfl (by first | exact .inl rfl | exact .inr rfl) (r_call g (ok_law_take T) (hr.mono (by decide)) (by rfl) (a_cons (rv 0) (a_cons (r_blt (c_len g.hK) (by rfl) T.z_len (by decide +kernel) (a_cons (rv 1) a_nil)) a_nil))))
      (ss_one (s_expr (r_bm g PySem.F.plainAttrs_list PySem.F.slot_list_append PySem.F.type_list_append m_append (rv 7) (a_cons (r_tup (a_cons (rv 9) (a_cons (r_bin ov_mod (r_bin (ov_add g.hK) (r_bin (ov_add g.hK) (rv 9) r_int) (r_call g (ok_law_take T) (hr.mono (by decide)) (by rfl) (a_cons (rv 0) (a_cons (r_bin ov_sub (r_blt (c_len g.hK) (by rfl) T.z_len (by decide +kernel) (a_cons (rv 1) a_nil)) r_int) a_nil)))) (r_blt (c_len g.hK) (by rfl) T.z_len (by decide +kernel) (a_cons (rv 1) a_nil))) a_nil))) a_nil))))))
      (ss_cons (s_set (i := 5) g rfl (by first | exact .inl rfl | exact .inr rfl) r_int)
      (ss_cons (s_for g (i_rng1 (by rfl) T.z_range (a_cons (r_blt (c_len g.hK) (by rfl) T.z_len (by decide +kernel) (a_cons (rv 7) a_nil)) a_nil)) (gn g 4) (ss_cons (s_set (i := 5) g rfl (by first | exact .inl rfl | exact .inr rfl) (r_bin (ov_add g.hK) (rv 5) (r_if (w_and (t_cmp oc_gt (rv 4) r_int (nomark _)) (w_and1 (t_cmp (oc_eq g.hK g.hu) (r_call g (ok_law_take T) (hr.mono (by decide)) (by rfl) (a_cons (rv 0) (a_cons r_int a_nil))) r_int (nomark _)))).pt r_int r_int)))
      (ss_one (s_expr (r_bm g PySem.F.plainAttrs_list PySem.F.slot_list_append PySem.F.type_list_append m_append (rv 8) (a_cons (rv 5) a_nil))))))
      (ss_cons (s_set (i := 6) g rfl (by first | exact .inl rfl | exact .inr rfl) (r_if (t_cmp (oc_eq g.hK g.hu) (r_call g (ok_law_take T) (hr.mono (by decide)) (by rfl) (a_cons (rv 0) (a_cons r_int a_nil))) r_int (nomark _)) (r_call g (ok_law_take T) (hr.mono (by decide)) (by rfl) (a_cons (rv 0) (a_cons (r_blt (c_len g.hK) (by rfl) T.z_len (by decide +kernel) (a_cons (rv 1) a_nil)) a_nil))) r_non))
      (ss_one (s_ret (r_tup (a_cons (rv 1) (a_cons (r_bty (c_tuple g.hK) (by rfl) T.z_tuple (by decide +kernel) (a_cons (rv 7) a_nil)) (a_cons (r_bty (c_tuple g.hK) (by rfl) T.z_tuple (by decide +kernel) (a_cons (rv 8) a_nil)) (a_cons (rv 6) (a_cons (r_call g (ok_law_take T) (hr.mono (by decide)) (by rfl) (a_cons (rv 0) (a_cons (r_bin (ov_add g.hK) (rv 3) r_int) a_nil))) a_nil)))))))))))))) sim_law_task
theorem ok_law_task (T : Txt w p mg) : FnAt p PR w mg base "_law_task" 2 4 F_law_task :=
  let ⟨fd, Fu⟩ := T.f_law_task
  ⟨_, fd, _, T.g_law_task, fn_law_task T Fu, Fu.kp, Fu.binds (fun _ _ _ _ _ _ us hl => match us, hl with | [_, _, _, _], _ => rfl)⟩
theorem sc_law_texts : FnScope ["task", "name", "rows", "ends", "lots", "group", "word", "carries", "groups", "last", "cuts", "k", "lot", "a", "b"] ["task", "name"] (defScope s_law_texts) := ⟨rfl, rfl, rfl, by decide +kernel, rfl, by decide +kernel, by decide +kernel⟩
theorem fn_law_texts (T : Txt w p mg) {f : Addr} {fd : FuncData} (Fu : Fun p.K "_law_texts" "_law_texts" s_law_texts f fd) : FnOk PR w p.K mg base CX0 1 f fd ["task", "name"] (spF p 2 F_law_texts) :=
  fn_ok Fu sc_law_texts (fun cdv A outer s H E hr g =>
      (ss_cons (s_asg (rv 0) (g_tup (n := 0) g (gs_cons (gn g 6) (gs_cons (gn g 7) (gs_cons (gn g 8) (gs_cons (gn g 9) (gs_cons (gn g 10) gs_nil)))))))
      (ss_cons (s_set (i := 2) g rfl (by first | exact .inl rfl | exact .inr rfl) (r_alloc (l_disp (a_cons (r_str (l := [114, 105, 110, 103, 32, 114, 114]) (by decide +kernel)) (a_cons (r_bin (ov_add g.hK) (r_str (l := [99, 101, 108, 108, 115, 32]) (by decide +kernel)) (rv 6)) a_nil)))))
      (ss_cons (s_expr (r_bm g PySem.F.plainAttrs_list PySem.F.slot_list_extend PySem.F.type_list_extend m_extend (rv 2) (a_cons (r_bin (ov_add g.hK) (r_lst (l_comp (own := [(Str.ofString "k", 11)]) g (i_rng1 (by rfl) T.z_range (a_cons (r_blt (c_len g.hK) (by rfl) T.z_len (by decide +kernel) (a_cons (rv 6) a_nil)) a_nil)) (blkOk_by (by kernel_rfl)) (fun _ _ _ _ _ g => (gn g 11)) (fun _ _ _ _ _ g => t_yes) (fun _ _ _ _ _ g => (r_bin (ov_add g.hK) (r_bin (ov_add g.hK) (r_bin (ov_add g.hK) (r_str (l := [98, 105, 110, 32, 120]) (by decide +kernel)) (r_bty c_str (by rfl) T.z_str (by decide +kernel) (a_cons (rv 11) a_nil))) (r_str (l := [32, 97, 116, 32]) (by decide +kernel))) (r_bty c_str (by rfl) T.z_str (by decide +kernel) (a_cons (rv 11) a_nil)))) (by decide))) (r_lst (l_disp (a_cons (r_str (l := [101, 110, 100]) (by decide +kernel)) a_nil)))) a_nil)))
      (ss_cons (s_set (i := 3) g rfl (by first | exact .inl rfl | exact .inr rfl) (r_bin (ov_add g.hK) (r_if (t_cmp oc_isNot (rv 9) r_non (nomark _)) (r_lst (l_disp (a_cons (r_bin (ov_add g.hK) (r_str (l := [108, 97, 115, 116, 32]) (by decide +kernel)) (r_bty c_str (by rfl) T.z_str (by decide +kernel) (a_cons (rv 9) a_nil))) a_nil))) (r_lst (l_disp a_nil))) (r_lst (l_disp (a_cons (r_bin (ov_add g.hK) (r_str (l := [99, 117, 116, 115, 32]) (by decide +kernel)) (r_bty c_str (by rfl) T.z_str (by decide +kernel) (a_cons (rv 10) a_nil))) (a_cons (r_str (l := [101, 110, 100]) (by decide +kernel)) a_nil))))))
      (ss_cons (s_set (i := 4) g rfl (by first | exact .inl rfl | exact .inr rfl) (r_alloc (l_disp a_nil)))
      (ss_cons (s_for g (i_any g (r_sortedSet g (by rfl) T.z_sorted (by rfl) T.z_set (rv 8))) (gn g 5) (ss_one (s_expr (r_bm g PySem.F.plainAttrs_list PySem.F.slot_list_append PySem.F.type_list_append m_append (rv 4) (a_cons (r_lst (l_comp (own := [(Str.ofString "k", 11), (Str.ofString "a", 13), (Str.ofString "b", 14)]) g (i_enumA g (by rfl) T.z_enumerate (a_cons (rv 7) a_nil)) (blkOk_by (by kernel_rfl)) (fun _ _ _ _ _ g => (g_tup (n := 0) g (gs_cons (gn g 11) (gs_cons (g_tup (n := 0) g (gs_cons (gn g 13) (gs_cons (gn g 14) gs_nil))) gs_nil)))) (fun _ _ _ _ _ g => (t_one (t_cmp (oc_eq g.hK g.hu) (r_ix g (rv 8) (rv 11)) (rv 5) (nomark _)))) (fun _ _ _ _ _ g => (r_bin (ov_add g.hK) (r_bin (ov_add g.hK) (r_bin (ov_add g.hK) (r_str (l := [99, 97, 114, 114, 121, 32, 120]) (by decide +kernel)) (r_bty c_str (by rfl) T.z_str (by decide +kernel) (a_cons (rv 13) a_nil))) (r_str (l := [32, 116, 111, 32, 120]) (by decide +kernel))) (r_bty c_str (by rfl) T.z_str (by decide +kernel) (a_cons (rv 14) a_nil)))) (by decide))) a_nil)))))
      (ss_cons (s_if (t_cmp (oc_eq g.hK g.hu) (r_blt (c_len g.hK) (by rfl) T.z_len (by decide +kernel) (a_cons (rv 4) a_nil)) r_int (nomark _)) (ss_one (s_ret (r_bin (ov_add g.hK) (r_bin (ov_add g.hK) (r_bin (ov_add g.hK) (rv 2) (r_lst (l_disp (a_cons (r_bin (ov_add g.hK) (r_bin (ov_add g.hK) (r_str (l := [106, 111, 98, 32]) (by decide +kernel)) (rv 1)) (r_str (l := [32, 111, 110, 32, 114, 114]) (by decide +kernel))) a_nil)))) (r_ix g (rv 4) r_int)) (rv 3)))) ss_nil)
      (ss_cons (s_for g (i_enumA g (by rfl) T.z_enumerate (a_cons (rv 4) a_nil)) (g_tup (n := 0) g (gs_cons (gn g 11) (gs_cons (gn g 12) gs_nil))) (ss_one (s_expr (r_bm g PySem.F.plainAttrs_list PySem.F.slot_list_extend PySem.F.type_list_extend m_extend (rv 2) (a_cons (r_bin (ov_add g.hK) (r_bin (ov_add g.hK) (r_lst (l_disp (a_cons (r_bin (ov_add g.hK) (r_bin (ov_add g.hK) (r_str (l := [106, 111, 98, 32, 106]) (by decide +kernel)) (r_bty c_str (by rfl) T.z_str (by decide +kernel) (a_cons (rv 11) a_nil))) (r_str (l := [32, 111, 110, 32, 114, 114]) (by decide +kernel))) a_nil))) (rv 12)) (r_lst (l_disp (a_cons (r_str (l := [99, 117, 116, 115, 32, 48]) (by decide +kernel)) (a_cons (r_str (l := [101, 110, 100]) (by decide +kernel)) a_nil))))) a_nil)))))
      (ss_one (s_ret (r_bin (ov_add g.hK) (r_bin (ov_add g.hK) (r_bin (ov_add g.hK) (rv 2) (r_lst (l_disp (a_cons (r_bin (ov_add g.hK) (r_bin (ov_add g.hK) (r_str (l := [100, 97, 121, 32]) (by decide +kernel)) (rv 1)) (r_str (l := [32, 111, 110, 32, 114, 114]) (by decide +kernel))) a_nil)))) (r_lst (l_comp (own := [(Str.ofString "k", 11)]) g (i_rng1 (by rfl) T.z_range (a_cons (r_blt (c_len g.hK) (by rfl) T.z_len (by decide +kernel) (a_cons (rv 4) a_nil)) a_nil)) (blkOk_by (by kernel_rfl)) (fun _ _ _ _ _ g => (gn g 11)) (fun _ _ _ _ _ g => t_yes) (fun _ _ _ _ _ g => (r_bin (ov_add g.hK) (r_str (l := [100, 111, 32, 106]) (by decide +kernel)) (r_bty c_str (by rfl) T.z_str (by decide +kernel) (a_cons (rv 11) a_nil)))) (by decide)))) (rv 3))))))))))))) sim_law_texts
theorem ok_law_texts (T : Txt w p mg) : FnAt p PR w mg base "_law_texts" 1 2 F_law_texts :=
  let ⟨fd, Fu⟩ := T.f_law_texts
  ⟨_, fd, _, T.g_law_texts, fn_law_texts T Fu, Fu.kp, Fu.binds (fun _ _ _ _ _ _ us hl => match us, hl with | [_, _], _ => rfl)⟩
theorem sc_law_scan : FnScope ["line", "parts", "scan", "found", "kind", "told"] ["line", "parts"] (defScope s_law_scan) := ⟨rfl, rfl, rfl, by decide +kernel, rfl, by decide +kernel, by decide +kernel⟩
theorem fn_law_scan (T : Txt w p mg) {f : Addr} {fd : FuncData} (Fu : Fun p.K "_law_scan" "_law_scan" s_law_scan f fd) : FnOk PR w p.K mg base CX0 3 f fd ["line", "parts"] (spF p 2 F_law_scan) :=
  fn_ok Fu sc_law_scan (fun cdv A outer s H E hr g =>
      (ss_cons (s_par2 (i := 2) (j := 3) g rfl rfl (by decide) rfl rfl (a_cons (r_make g (ok_Scan_init T) (hr.mono (by decide)) (by rfl) (a_cons (rv 0) a_nil)) (a_cons (r_alloc (l_disp a_nil)) a_nil)) (by rfl))
      (ss_cons (s_for g (i_any g (rv 1)) (g_tup (n := 0) g (gs_cons (gn g 4) (gs_cons (gn g 5) gs_nil))) (ss_one (s_if (t_cmp (oc_eq g.hK g.hu) (rv 4) (r_str (l := [119, 111, 114, 100]) (by decide +kernel)) (nomark _)) (ss_one (s_expr (r_meth (mth := "take_word") g (ok_Scan_take_word T) (hr.mono (by decide)) (rv 2) (a_cons (rv 5) a_nil)))) (ss_one (s_if (t_cmp (oc_eq g.hK g.hu) (rv 4) (r_str (l := [110, 97, 109, 101]) (by decide +kernel)) (nomark _)) (ss_one (s_expr (r_bm g PySem.F.plainAttrs_list PySem.F.slot_list_append PySem.F.type_list_append m_append (rv 3) (a_cons (r_meth0 (mth := "take_name") g (ok_Scan_take_name T) (hr.mono (by decide)) (rv 2)) a_nil)))) (ss_one (s_if (t_cmp (oc_eq g.hK g.hu) (rv 4) (r_str (l := [115, 105, 103, 110, 115]) (by decide +kernel)) (nomark _)) (ss_one (s_expr (r_bm g PySem.F.plainAttrs_list PySem.F.slot_list_append PySem.F.type_list_append m_append (rv 3) (a_cons (r_meth (mth := "take_signs") g (ok_Scan_take_signs T) (hr.mono (by decide)) (rv 2) (a_cons (r_ix g (rv 5) r_int) (a_cons (r_ix g (rv 5) r_int) (a_cons (r_ix g (rv 5) r_int) a_nil)))) a_nil)))) (ss_one (s_if (t_cmp (oc_eq g.hK g.hu) (rv 4) (r_str (l := [99, 111, 117, 110, 116]) (by decide +kernel)) (nomark _)) (ss_one (s_expr (r_bm g PySem.F.plainAttrs_list PySem.F.slot_list_append PySem.F.type_list_append m_append (rv 3) (a_cons (r_meth (mth := "take_count") g (ok_Scan_take_count T) (hr.mono (by decide)) (rv 2) (a_cons (rv 5) a_nil)) a_nil)))) (ss_one (s_expr (r_meth0 (mth := "take_end") g (ok_Scan_take_end T) (hr.mono (by decide)) (rv 2)))))))))))))
      (ss_one (s_ret (r_tup (a_cons (rv 2) (a_cons (rv 3) a_nil)))))))) sim_law_scan
theorem ok_law_scan (T : Txt w p mg) : FnAt p PR w mg base "_law_scan" 3 2 F_law_scan :=
  let ⟨fd, Fu⟩ := T.f_law_scan
  ⟨_, fd, _, T.g_law_scan, fn_law_scan T Fu, Fu.kp, Fu.binds (fun _ _ _ _ _ _ us hl => match us, hl with | [_, _], _ => rfl)⟩
theorem sc_law : FnScope ["script", "bag", "lap", "task", "lines", "line", "k", "at", "bent", "scan", "words", "parts", "word", "name", "signs", "number", "due", "kind", "found"] ["script"] (defScope s_law) := ⟨rfl, rfl, rfl, by decide +kernel, rfl, by decide +kernel, by decide +kernel⟩
theorem fn_law (T : Txt w p mg) {f : Addr} {fd : FuncData} (Fu : Fun p.K "law" "law" s_law f fd) : FnOk PR w p.K mg base CX0 9 f fd ["script"] (spF p 1 F_law) :=
  fn_ok Fu sc_law (fun cdv A outer s H E hr g =>
      (ss_cons (s_set (i := 1) g rfl (by first | exact .inl rfl | exact .inr rfl) (r_call g (ok_law_bag T) (hr.mono (by decide)) (by rfl) (a_cons (rv 0) a_nil)))
      (ss_cons (s_for g (i_rng1 (by rfl) T.z_range (a_cons r_int a_nil)) (gn g 2) (ss_cons (s_par3 (i := 13) (j := 14) (l := 15) g rfl rfl rfl (by decide) (by decide) (by decide) rfl rfl rfl (a_cons (r_call g (ok_law_some T) (hr.mono (by decide)) (by rfl) (a_cons (rv 1) (a_cons (r_lst (l_disp (a_cons (r_str (l := [120]) (by decide +kernel)) (a_cons (r_str (l := [97, 98, 51]) (by decide +kernel)) (a_cons (r_str (l := [114, 114]) (by decide +kernel)) (a_cons (r_str (l := [113, 49, 50, 51, 52, 53, 54, 55]) (by decide +kernel)) a_nil)))))) a_nil))) (a_cons (r_call g (ok_law_word T) (hr.mono (by decide)) (by rfl) (a_cons (rv 1) (a_cons r_int (a_cons r_int a_nil)))) (a_cons (r_call g (ok_law_take T) (hr.mono (by decide)) (by rfl) (a_cons (rv 1) (a_cons r_int a_nil))) a_nil))) (by rfl))
      (ss_cons (s_par3 (i := 11) (j := 5) (l := 16) g rfl rfl rfl (by decide) (by decide) (by decide) rfl rfl rfl (a_cons (r_alloc (l_disp a_nil)) (a_cons (r_str (l := []) (by decide +kernel)) (a_cons (r_alloc (l_disp a_nil)) a_nil))) (by rfl))
      (ss_cons (s_for g (i_rng1 (by rfl) T.z_range (a_cons (r_bin (ov_add g.hK) r_int (r_call g (ok_law_take T) (hr.mono (by decide)) (by rfl) (a_cons (rv 1) (a_cons r_int a_nil)))) a_nil)) (gn g 6) (ss_cons (s_set (i := 17) g rfl (by first | exact .inl rfl | exact .inr rfl) (r_call g (ok_law_some T) (hr.mono (by decide)) (by rfl) (a_cons (rv 1) (a_cons (r_lst (l_disp (a_cons (r_str (l := [119, 111, 114, 100]) (by decide +kernel)) (a_cons (r_str (l := [110, 97, 109, 101]) (by decide +kernel)) (a_cons (r_str (l := [115, 105, 103, 110, 115]) (by decide +kernel)) (a_cons (r_str (l := [99, 111, 117, 110, 116]) (by decide +kernel)) a_nil)))))) a_nil))))
      (ss_cons (s_if (t_cmp (oc_eq g.hK g.hu) (rv 17) (r_str (l := [119, 111, 114, 100]) (by decide +kernel)) (nomark _)) (ss_cons (s_set (i := 12) g rfl (by first | exact .inl rfl | exact .inr rfl) (r_call g (ok_law_some T) (hr.mono (by decide)) (by rfl) (a_cons (rv 1) (a_cons (r_lst (l_disp (a_cons (r_str (l := [98, 105, 110, 32]) (by decide +kernel)) (a_cons (r_str (l := [32, 97, 116, 32]) (by decide +kernel)) (a_cons (r_str (l := [99, 101, 108, 108, 115, 32]) (by decide +kernel)) (a_cons (r_str (l := [111, 110]) (by decide +kernel)) a_nil)))))) a_nil))))
      (ss_cons (s_expr (r_bm g PySem.F.plainAttrs_list PySem.F.slot_list_append PySem.F.type_list_append m_append (rv 11) (a_cons (r_tup (a_cons (rv 17) (a_cons (rv 12) a_nil))) a_nil)))
      (ss_one (s_set (i := 5) g rfl (by first | exact .inl rfl | exact .inr rfl) (r_bin (ov_add g.hK) (rv 5) (rv 12)))))) (ss_cons (s_expr (r_bm g PySem.F.plainAttrs_list PySem.F.slot_list_append PySem.F.type_list_append m_append (rv 11) (a_cons (r_tup (a_cons (rv 17) (a_cons (r_dget g (r_disp (ps := [((fC (.str [110, 97, 109, 101])), (fC .non)), ((fC (.str [115, 105, 103, 110, 115])), (fTup (aCons (fC (.str [97, 98, 99])) (aCons (fC (.int 2)) (aCons (fC (.int 12)) aNil))))), ((fC (.str [99, 111, 117, 110, 116])), (fC (.int 50)))]) (pps_m_cons (r_str (l := [110, 97, 109, 101]) (by decide +kernel)) r_non (pps_m_cons (r_str (l := [115, 105, 103, 110, 115]) (by decide +kernel)) (r_tup (a_cons (r_str (l := [97, 98, 99]) (by decide +kernel)) (a_cons r_int (a_cons r_int a_nil)))) (pps_m_cons (r_str (l := [99, 111, 117, 110, 116]) (by decide +kernel)) r_int pps_m_nil))) rfl rfl (by simp) (by decide)) (rv 17)) a_nil))) a_nil)))
      (ss_cons (s_expr (r_bm g PySem.F.plainAttrs_list PySem.F.slot_list_append PySem.F.type_list_append m_append (rv 16) (a_cons (r_dget g (r_disp (ps := [((fC (.str [110, 97, 109, 101])), (fVar 13)), ((fC (.str [115, 105, 103, 110, 115])), (fVar 14)), ((fC (.str [99, 111, 117, 110, 116])), (fVar 15))]) (pps_m_cons (r_str (l := [110, 97, 109, 101]) (by decide +kernel)) (rv 13) (pps_m_cons (r_str (l := [115, 105, 103, 110, 115]) (by decide +kernel)) (rv 14) (pps_m_cons (r_str (l := [99, 111, 117, 110, 116]) (by decide +kernel)) (rv 15) pps_m_nil))) rfl rfl (by simp) (by decide)) (rv 17)) a_nil)))
      (ss_one (s_set (i := 5) g rfl (by first | exact .inl rfl | exact .inr rfl) (r_bin (ov_add g.hK) (rv 5) (r_dget g (r_disp (ps := [((fC (.str [110, 97, 109, 101])), (fVar 13)), ((fC (.str [115, 105, 103, 110, 115])), (fVar 14)), ((fC (.str [99, 111, 117, 110, 116])), (fBlt vStr (aCons (fVar 15) aNil)))]) (pps_m_cons (r_str (l := [110, 97, 109, 101]) (by decide +kernel)) (rv 13) (pps_m_cons (r_str (l := [115, 105, 103, 110, 115]) (by decide +kernel)) (rv 14) (pps_m_cons (r_str (l := [99, 111, 117, 110, 116]) (by decide +kernel)) (r_bty c_str (by rfl) T.z_str (by decide +kernel) (a_cons (rv 15) a_nil)) pps_m_nil))) rfl rfl (by simp) (by decide)) (rv 17))))))))
      (ss_cons (s_expr (r_bm g PySem.F.plainAttrs_list PySem.F.slot_list_append PySem.F.type_list_append m_append (rv 11) (a_cons (r_tup (a_cons (r_str (l := [119, 111, 114, 100]) (by decide +kernel)) (a_cons (r_str (l := [32]) (by decide +kernel)) a_nil))) a_nil)))
      (ss_one (s_set (i := 5) g rfl (by first | exact .inl rfl | exact .inr rfl) (r_bin (ov_add g.hK) (rv 5) (r_str (l := [32]) (by decide +kernel)))))))))
      (ss_cons (s_expr (r_bm g PySem.F.plainAttrs_list PySem.F.slot_list_append PySem.F.type_list_append m_append (rv 11) (a_cons (r_tup (a_cons (r_str (l := [101, 110, 100]) (by decide +kernel)) (a_cons r_non a_nil))) a_nil)))
      (ss_cons (s_asg (r_call g (ok_law_scan T) (hr.mono (by decide)) (by rfl) (a_cons (rv 5) (a_cons (rv 11) a_nil))) (g_tup (n := 0) g (gs_cons (gn g 9) (gs_cons (gn g 18) gs_nil))))
      (ss_cons (s_if (t_cmp (oc_ne g.hK g.hu) (r_tup (a_cons (r_fld (c := 1) (fld := "text") g T.k_Scan T.n_Scan_text (rv 9)) (a_cons (r_fld (c := 1) (fld := "at") g T.k_Scan T.n_Scan_at (rv 9)) (a_cons (r_fld (c := 1) (fld := "good") g T.k_Scan T.n_Scan_good (rv 9)) (a_cons (rv 18) a_nil))))) (r_tup (a_cons (rv 5) (a_cons (r_blt (c_len g.hK) (by rfl) T.z_len (by decide +kernel) (a_cons (rv 5) a_nil)) (a_cons r_bl (a_cons (rv 16) a_nil))))) (nomark _)) (ss_one (s_ret r_bl)) ss_nil)
      (ss_cons (s_set (i := 7) g rfl (by first | exact .inl rfl | exact .inr rfl) (r_call g (ok_law_take T) (hr.mono (by decide)) (by rfl) (a_cons (rv 1) (a_cons (r_blt (c_len g.hK) (by rfl) T.z_len (by decide +kernel) (a_cons (rv 5) a_nil)) a_nil))))
      (ss_cons (s_set (i := 8) g rfl (by first | exact .inl rfl | exact .inr rfl) (r_bin (ov_add g.hK) (r_bin (ov_add g.hK) (r_sl g (rv 5) o_none (o_some (rv 7))) (r_str (l := [63]) (by decide +kernel))) (r_sl g (rv 5) (o_some (rv 7)) o_none)))
      (ss_cons (s_asg (r_call g (ok_law_scan T) (hr.mono (by decide)) (by rfl) (a_cons (rv 8) (a_cons (rv 11) a_nil))) (g_tup (n := 0) g (gs_cons (gn g 9) (gs_cons (gn g 18) gs_nil))))
      (ss_cons (s_if (w_or (t_val (r_fld (c := 1) (fld := "good") g T.k_Scan T.n_Scan_good (rv 9))) (w_or (t_cmp (oc_ne g.hK g.hu) (r_fld (c := 1) (fld := "at") g T.k_Scan T.n_Scan_at (rv 9)) (rv 7) (nomark _)) (w_or1 (t_cmp (oc_ne g.hK g.hu) (r_fld (c := 1) (fld := "text") g T.k_Scan T.n_Scan_text (rv 9)) (rv 8) (nomark _))))).pt (ss_one (s_ret r_bl)) ss_nil)
      (ss_cons (s_asg (r_call g (ok_law_scan T) (hr.mono (by decide)) (by rfl) (a_cons (r_bin (ov_add g.hK) (rv 5) (r_str (l := [120]) (by decide +kernel))) (a_cons (rv 11) a_nil))) (g_tup (n := 0) g (gs_cons (gn g 9) (gs_cons (gn g 18) gs_nil))))
      (ss_cons (s_if (w_or (t_val (r_fld (c := 1) (fld := "good") g T.k_Scan T.n_Scan_good (rv 9))) (w_or1 (t_cmp (oc_ne g.hK g.hu) (r_fld (c := 1) (fld := "at") g T.k_Scan T.n_Scan_at (rv 9)) (r_blt (c_len g.hK) (by rfl) T.z_len (by decide +kernel) (a_cons (rv 5) a_nil)) (nomark _)))).pt (ss_one (s_ret r_bl)) ss_nil)
      (ss_cons (s_set (i := 9) g rfl (by first | exact .inl rfl | exact .inr rfl) (r_make g (ok_Scan_init T) (hr.mono (by decide)) (by rfl) (a_cons (r_bin (ov_add g.hK) (rv 13) (r_str (l := [63]) (by decide +kernel))) a_nil)))
      (ss_one (s_if (w_or (t_cmp (oc_ne g.hK g.hu) (r_meth0 (mth := "take_name") g (ok_Scan_take_name T) (hr.mono (by decide)) (rv 9)) (rv 13) (nomark _)) (w_or (t_not (t_val (r_fld (c := 1) (fld := "good") g T.k_Scan T.n_Scan_good (rv 9)))) (w_or (t_cmp (oc_ne g.hK g.hu) (r_fld (c := 1) (fld := "at") g T.k_Scan T.n_Scan_at (rv 9)) (r_blt (c_len g.hK) (by rfl) T.z_len (by decide +kernel) (a_cons (rv 13) a_nil)) (nomark _)) (w_or1 (t_not (t_val (r_call g (ok_is_name T) (hr.mono (by decide)) (by rfl) (a_cons (rv 13) a_nil)))))))).pt (ss_one (s_ret r_bl)) ss_nil))))))))))))))))
      (ss_cons (s_set (i := 3) g rfl (by first | exact .inl rfl | exact .inr rfl) (r_call g (ok_law_task T) (hr.mono (by decide)) (by rfl) (a_cons (rv 1) (a_cons (r_call g (ok_law_word T) (hr.mono (by decide)) (by rfl) (a_cons (rv 1) (a_cons r_int (a_cons r_int a_nil)))) (a_cons r_int (a_cons r_int a_nil))))))
      (ss_cons (s_set (i := 4) g rfl (by first | exact .inl rfl | exact .inr rfl) (r_call g (ok_law_texts T) (hr.mono (by decide)) (by rfl) (a_cons (rv 3) (a_cons (r_str (l := [103, 111]) (by decide +kernel)) a_nil))))
      (ss_cons (s_if (t_cmp (oc_ne g.hK g.hu) (r_bty (c_list g.hK) (by rfl) T.z_list (by decide +kernel) (a_cons (r_call g (ok_text_lines T) (hr.mono (by decide)) (by rfl) (a_cons (r_call g (ok_read_text T) (hr.mono (by decide)) (by rfl) (a_cons (r_bm g PySem.F.plainAttrs_str PySem.F.slot_str_join PySem.F.type_str_join (m_join g.hK) (r_str (l := [10]) (by decide +kernel)) (a_cons (rv 4) a_nil)) a_nil)) a_nil)) a_nil)) (rv 4) (nomark _)) (ss_one (s_ret r_bl)) ss_nil)
      (ss_cons (s_for g (i_any g (rv 4)) (gn g 5) (ss_cons (s_set (i := 10) g rfl (by first | exact .inl rfl | exact .inr rfl) (r_bm g PySem.F.plainAttrs_str PySem.F.slot_str_split PySem.F.type_str_split m_split (rv 5) (a_cons (r_str (l := [32]) (by decide +kernel)) a_nil)))
      (ss_cons (s_set (i := 11) g rfl (by first | exact .inl rfl | exact .inr rfl) (r_alloc (l_disp (a_cons (r_tup (a_cons (r_str (l := [119, 111, 114, 100]) (by decide +kernel)) (a_cons (r_ix g (rv 10) r_int) a_nil))) a_nil))))
      (ss_cons (s_for g (i_any g (r_sl g (rv 10) (o_some r_int) o_none)) (gn g 12) (ss_one (s_expr (r_bm g PySem.F.plainAttrs_list PySem.F.slot_list_append PySem.F.type_list_append m_append (rv 11) (a_cons (r_tup (a_cons (r_str (l := [119, 111, 114, 100]) (by decide +kernel)) (a_cons (r_bin (ov_add g.hK) (r_str (l := [32]) (by decide +kernel)) (rv 12)) a_nil))) a_nil)))))
      (ss_cons (s_asg (r_call g (ok_law_scan T) (hr.mono (by decide)) (by rfl) (a_cons (rv 5) (a_cons (r_bin (ov_add g.hK) (rv 11) (r_lst (l_disp (a_cons (r_tup (a_cons (r_str (l := [101, 110, 100]) (by decide +kernel)) (a_cons r_non a_nil))) a_nil)))) a_nil))) (g_tup (n := 0) g (gs_cons (gn g 9) (gs_cons (gn g 18) gs_nil))))
      (ss_one (s_if (w_or (t_not (t_val (r_fld (c := 1) (fld := "good") g T.k_Scan T.n_Scan_good (rv 9)))) (w_or (t_cmp (oc_ne g.hK g.hu) (r_fld (c := 1) (fld := "at") g T.k_Scan T.n_Scan_at (rv 9)) (r_blt (c_len g.hK) (by rfl) T.z_len (by decide +kernel) (a_cons (rv 5) a_nil)) (nomark _)) (w_or1 (t_cmp (oc_ne g.hK g.hu) (rv 18) (r_lst (l_disp a_nil)) (nomark _))))).pt (ss_one (s_ret r_bl)) ss_nil)))))))
      (ss_one (s_ret r_bl))))))))) sim_law
theorem ok_law (T : Txt w p mg) : FnAt p PR w mg base "law" 9 1 F_law :=
  let ⟨fd, Fu⟩ := T.f_law
  ⟨_, fd, _, T.g_law, fn_law T Fu, Fu.kp, Fu.binds (fun _ _ _ _ _ _ us hl => match us, hl with | [_], _ => rfl)⟩
end
def loose0 : List Str := ["_wall", "LETTERS", "DIGITS", "MARKS", "MOST_SIGNS", "LEAST_CELLS", "MOST_CELLS", "MOST_CUTS", "RESERVED", "is_name", "Scan", "is_beginning", "CartError", "BadText", "take_ring", "take_cells", "take_bin", "take_head", "take_job", "take_day", "take_carry", "take_do", "take_last", "take_cuts", "take_close", "fitted", "HEADS", "SORTS", "Reading", "read_text"]
def loose1 : List Str := ["ring_lines", "end_lines", "job_lines", "day_lines", "text_lines", "_law_bag", "_law_take", "_law_some", "_law_word", "_law_turned", "_law_leaving", "_law_task", "_law_texts", "_law_scan"]
def loose : List Str := loose0 ++ loose1
end K29
set_option maxHeartbeats 0
namespace K29
open PySem L2 Mini
/-! the head -/
abbrev R : PySem.W.OpenRow := PySem.W.OpenLaw.row PySem.Challenge.rw_lostcart_k29_lines_scanned_word_by_word
abbrev hk : PySem.W.Hook := He.hookX 6 fa fn ts [] (exB names cs dcs)
def ob (s : PySem.W.SharedT) : He.AlX := He.obsX 6 fa fn ts [] (exB names cs dcs) (HandSHeadRun.getT s)
theorem ob_eq (s : PySem.W.SharedT) : ob s = hk.obs s.abs := He.obsX_eq (HandSHeadRun.getT_eq s)
theorem run_f (w : World) : HandSHeadRun.RunEq R (PySem.W.view R.prog [51]) hk ob 4000 loose (w.withFollow "special-get-raises" false) := by
  intro os
  kernel_rfl
theorem run_t (w : World) : HandSHeadRun.RunEq R (PySem.W.view R.prog [51]) hk ob 4000 loose (w.withFollow "special-get-raises" true) := by
  intro os
  kernel_rfl
theorem run (w : World) : HandSHeadRun.RunEq R (PySem.W.view R.prog [51]) hk ob 4000 loose w := PySem.W.byRow2 "special-get-raises" run_f run_t w
end K29
open PySem PySem.W PySem.Calls PyProof.Rows
theorem PySem.Challenge.cw_lostcart_k29_lines_scanned_word_by_word_holds : PySem.Challenge.rw_lostcart_k29_lines_scanned_word_by_word.Holds := by
  w_on; o_law
  refine HandSHeadRun.head_any (r := OpenLaw.row PySem.Challenge.rw_lostcart_k29_lines_scanned_word_by_word) (q := view (OpenLaw.row PySem.Challenge.rw_lostcart_k29_lines_scanned_word_by_word).prog [51]) (H := K29.hk) (ob := K29.ob) (M := 4000) (loose := K29.loose) (d := HandSHeadRun.topDef (OpenLaw.row PySem.Challenge.rw_lostcart_k29_lines_scanned_word_by_word).prog 51) (kwd := []) K29.ob_eq
    (by kernel_rfl) (fun s => by kernel_rfl) K29.run (by kernel_rfl) (by kernel_rfl) (by kernel_rfl) (by rfl) (by first | assumption | decide +kernel) (by decide +kernel) ⟨rfl, rfl, rfl, rfl, rfl, by decide +kernel⟩ ?hw ?hc
  case hw => w_witness2
  case hc =>
    refine L2.walk_ofE (l := PySem.Challenge.rw_lostcart_k29_lines_scanned_word_by_word) (n := 63) (k := 9) (x := "script") (CX := L2.CX0) rfl (by decide) (by kernel_rfl) ⟨rfl, by decide, by decide⟩ ?F (fun _ _ _ _ z => z)
    intro w mg fa h Y G hmg0
    obtain ⟨K, KX, c⟩ := Y
    have hmg : mg ("law" : PySem.Str) = some (.ref fa) := by
      have e : (HandSHeadRun.topDef (OpenLaw.row PySem.Challenge.rw_lostcart_k29_lines_scanned_word_by_word).prog 51).name = ("law" : PySem.Str) := by kernel_rfl
      rw [← e]
      exact hmg0
    have T : K29.Txt w (Mini.parOf K29.names K) mg := ⟨⟨rfl, ⟨h, KX, G⟩, c.t, c.more⟩⟩
    obtain ⟨fd, Fu⟩ := T.f_law
    have e := hmg.symm.trans T.g_law
    simp only [Option.some.injEq, Value.ref.injEq] at e
    subst e
    have hno : Mini.noLst K = true := (He.ba c.more).1
    refine ⟨K, fd, Mini.spF (Mini.parOf K29.names K) 1 K29.F_law, KX, ?_, ?_, fun base _ _ => K29.fn_law T Fu⟩
    · obtain ⟨_, _, _, _, _, _, _, _, _, rfl, _, _⟩ := Fu.ex
      exact fun s v => .of_eq rfl
    · intro H a ns hl hO hS
      exact Mini.spF_law (p := Mini.parOf K29.names K) hno (by simp [K29.F_law, Mini.intsOf_map]) hO hS
