import PyProof.Rows.All
import Wide.All
import OpenK.AllK
import Wide.FinOn
import HandS.ForMost
import HandS.ForExc
import HandS.Wide
import KE.DataEq
import KE.DataCmp
import KE.DataFind
import HandS.TupLe
import HandS.IsInst
import HandS.CallSlots
import HandS.ExcIs
import HandS.Defaults
import HandS.HeadEnd
import HandS.Head0
import HandS.Head1
import HandS.Head2
import HandS.HeadHook1
import HandS.HeadHook2
import KE.KStateDown
import HandS.Codes
import HandS.EndBits
import HandS.Conv
import HandS.Zip
import HandS.TryOnly
import HandS.Dict
import HandS.DictComp
import HandS.More
import KE.SortData
import HandS.Text
import HandS.StrMore
import HandS.MapJoin
import HandS.DeepEq
import PyProof.NeKinds
import PyProof.MeetsIn
import HandS.SetFor
import KE.KDictList
import KE.KDictSum
import KE.SortKeyHeap
import HandS.SortKw
import HandS.Keys
import HandS.Finally
import KE.GoesZip
import KE.GoesComp
import PySem.Challenge.RW_roadshare_k11_trees_made
set_option Elab.async false
set_option linter.all false
set_option maxRecDepth 100000
set_option maxHeartbeats 0
namespace Pi
open PySem PySem.Spec PyProof.Rows L2
inductive D where
  | non | bl (b : Bool) | int (i : Int) | str (x : Str)
  | tup (l : List D) | lst (l : List D) | dct (ks : List Key) (vs : List D)
  | obj (c : Nat) (fs : List D) | exc (c : Nat) | scr (l : List Int)
inductive Er where
  | raise (k : Nat) | stuck
abbrev Rs (α : Type) := Except Er α
def bnd {α β : Type} : Rs α → (α → Rs β) → Rs β
  | .ok a, f => f a
  | .error e, _ => .error e
@[simp] theorem bnd_ok {α β : Type} (a : α) (f : α → Rs β) : bnd (.ok a) f = f a := rfl
@[simp] theorem bnd_err {α β : Type} (e : Er) (f : α → Rs β) : bnd (.error e) f = .error e := rfl
abbrev En := List (Option D)
abbrev EvE := En → Rs D
inductive Fl where
  | nx (en : En) | rt (d : D) | ct (en : En)
abbrev EvS := En → Rs Fl
inductive Sh where
  | s | u | o (e : Sh) | m (fs : Sh) | nil | cons (a b : Sh) | rep (e : Sh)
  deriving DecidableEq
def Sh.hd : Sh → Sh
  | .cons a _ => a
  | .rep e => e
  | .u => .u
  | _ => .s
def Sh.tl : Sh → Sh
  | .cons _ b => b
  | .rep e => .rep e
  | .u => .u
  | _ => .nil
def Sh.its : Sh → Option Sh
  | .o e => some (.rep e)
  | .u => some .u
  | _ => none
def Sh.fls : Sh → Option Sh
  | .m fs => some fs
  | .u => some .u
  | _ => none
inductive SF where
  | n | s (dp : Bool) | o (dp : Bool) | z | x (a : Addr) | dt (sh : Sh) | ma (sh : Sh)
  deriving DecidableEq
inductive VF where
  | sh (dp : Bool) | uq (dp : Bool) | bo (dp : Bool)
  deriving DecidableEq
structure Gb where
  P : Program
  w : World
  K : PySem.W.Frag
  mg : Str → Option Value
  base : Heap
  ca : Nat → Addr
  cf : Nat → List Str
  xa : Nat → Addr
  ga : Str → Addr
def SqF (K : PySem.W.Frag) (H : Hp) (a : Addr) (xs : List V) : Prop := (∃ o, H a = some (.frz o (.lst xs))) ∨
  ∃ (o : Obj) (its : Array Value) (n : Nat), K.lookup a = some o ∧ o.cls = .type "list" ∧ o.dict = none ∧ o.data = .seq its n ∧ its.size ≤ sizeLine ∧ Vals xs its.toList
theorem SqF.sq {K : PySem.W.Frag} {H : Hp} {a : Addr} {xs : List V} (h : SqF K H a xs) : SqL K H a xs := by
  rcases h with ⟨o, h⟩ | h
  · exact .inl (.inr ⟨o, h⟩)
  · exact .inr h
section
variable (G : Gb) (A : Addr → Prop) (H : Hp)
mutual
/-- the value v stands for the datum; what may be written within is at A -/
def R : D → V → Prop
  | .non, v => v = .non
  | .bl b, v => v = .bl b
  | .int i, v => v = .int i
  | .str x, v => v = .str x
  | .tup l, v => ∃ a xs, v = .ref a ∧ SqT G.K H a xs ∧ RL l xs
  | .lst l, v => ∃ a xs, v = .ref a ∧ A a ∧ H a = some (.lst xs) ∧ RL l xs
  | .dct ks l, v => ∃ a kvs, v = .ref a ∧ A a ∧ Rd H a (.dK kvs) ∧ kvs.map (·.1) = ks ∧ RL l (kvs.map (·.2))
  | .obj c l, v => ∃ a dx fs, v = .ref a ∧ A a ∧ H a = some (.ins (G.ca c) dx fs) ∧ fs.map (·.1) = (G.cf c).take l.length ∧ RL l (fs.map (·.2))
  | .exc _, _ => False
  | .scr l, v => ∃ a, v = .ref a ∧ SqF G.K H a (l.map V.int)
def RL : List D → List V → Prop
  | [], xs => xs = []
  | d :: l, xs => ∃ x r, xs = x :: r ∧ R d x ∧ RL l r
end
end
section
variable {G : Gb} {A A' : Addr → Prop} {H H' : Hp}
theorem RL.len : ∀ {l : List D} {xs : List V}, RL G A H l xs → xs.length = l.length
  | [], _, h => by rw [h]; rfl
  | _ :: l, _, ⟨_, r, e, _, h⟩ => by rw [e]; exact congrArg Nat.succ (RL.len (l := l) h)
theorem RL.cons {d : D} {l : List D} {x : V} {r : List V} (h : R G A H d x) (t : RL G A H l r) : RL G A H (d :: l) (x :: r) := ⟨x, r, rfl, h, t⟩
theorem RL.nil : RL G A H [] [] := rfl
theorem RL.app : ∀ {l m : List D} {xs ys : List V}, RL G A H l xs → RL G A H m ys → RL G A H (l ++ m) (xs ++ ys)
  | [], _, _, _, h, t => by rw [show _ = [] from h]; exact t
  | _ :: l, _, _, _, ⟨x, r, e, h1, h⟩, t => by rw [e]; exact ⟨x, _, rfl, h1, RL.app (l := l) h t⟩
theorem RL.get : ∀ {l : List D} {xs : List V} {i : Nat} {d : D}, RL G A H l xs → l[i]? = some d → ∃ x, xs[i]? = some x ∧ R G A H d x
  | [], _, _, _, _, e => by simp at e
  | a :: l, _, 0, d, ⟨x, r, e, h1, _⟩, e1 => by simp at e1; subst e1; exact ⟨x, by rw [e]; rfl, h1⟩
  | a :: l, _, i + 1, d, ⟨x, r, e, _, h⟩, e1 => by rw [e]; exact RL.get (l := l) (i := i) h e1
theorem RL.set : ∀ {l : List D} {xs : List V} (i : Nat) {d : D} {x : V}, RL G A H l xs → R G A H d x → RL G A H (l.set i d) (xs.set i x)
  | [], _, _, _, _, h, _ => by rw [show _ = [] from h]; rfl
  | a :: l, _, 0, d, y, ⟨x, r, e, h1, h⟩, hd => by rw [e]; exact ⟨y, r, rfl, hd, h⟩
  | a :: l, _, i + 1, d, y, ⟨x, r, e, h1, h⟩, hd => by rw [e]; exact ⟨x, _, rfl, h1, RL.set (l := l) i h hd⟩
theorem RL.take : ∀ {l : List D} {xs : List V} (n : Nat), RL G A H l xs → RL G A H (l.take n) (xs.take n)
  | _, _, 0, _ => rfl
  | [], _, n + 1, h => by rw [show _ = [] from h]; rfl
  | a :: l, _, n + 1, ⟨x, r, e, h1, h⟩ => by rw [e]; exact ⟨x, _, rfl, h1, RL.take (l := l) n h⟩
theorem RL.drop : ∀ {l : List D} {xs : List V} (n : Nat), RL G A H l xs → RL G A H (l.drop n) (xs.drop n)
  | _, _, 0, h => h
  | [], _, n + 1, h => by rw [show _ = [] from h]; rfl
  | a :: l, _, n + 1, ⟨x, r, e, h1, h⟩ => by rw [e]; exact RL.drop (l := l) n h
theorem RL.rev {l : List D} {xs : List V} (h : RL G A H l xs) : RL G A H l.reverse xs.reverse := by
  induction l generalizing xs with
  | nil => rw [show xs = [] from h]; rfl
  | cons a l ih => obtain ⟨x, r, e, h1, h2⟩ := h; rw [e, List.reverse_cons, List.reverse_cons]; exact RL.app (ih h2) (RL.cons h1 RL.nil)
structure Up (K : PySem.W.Frag) (A A' : Addr → Prop) (H H' : Hp) : Prop where
  lst : ∀ a xs, A a → H a = some (.lst xs) → A' a ∧ H' a = some (.lst xs)
  dct : ∀ a xs, A a → Rd H a (.dK xs) → A' a ∧ Rd H' a (.dK xs)
  obj : ∀ a C dx fs, A a → H a = some (.ins C dx fs) → A' a ∧ H' a = some (.ins C dx fs)
  tup : ∀ a xs, Rd H a (.tup xs) → Rd H' a (.tup xs)
  scr : ∀ a xs, SqF K H a xs → SqF K H' a xs
theorem Up.seqT {K : PySem.W.Frag} (u : Up K A A' H H') {a : Addr} {xs : List V} (h : SqT K H a xs) : SqT K H' a xs := by
  rcases h with h | h
  · exact .inl (u.tup _ _ h)
  · exact .inr h
mutual
theorem R.up (u : Up G.K A A' H H') : ∀ (d : D) {v : V}, R G A H d v → R G A' H' d v
  | .non, _, h => h
  | .bl _, _, h => h
  | .int _, _, h => h
  | .str _, _, h => h
  | .tup l, _, ⟨a, xs, e, h1, h2⟩ => ⟨a, xs, e, u.seqT h1, RL.up u l h2⟩
  | .lst l, _, ⟨a, xs, e, h0, h1, h2⟩ => ⟨a, xs, e, (u.lst _ _ h0 h1).1, (u.lst _ _ h0 h1).2, RL.up u l h2⟩
  | .dct ks l, _, ⟨a, kvs, e, h1, h2, h3, h4⟩ => ⟨a, kvs, e, (u.dct _ _ h1 h2).1, (u.dct _ _ h1 h2).2, h3, RL.up u l h4⟩
  | .obj c l, _, ⟨a, dx, fs, e, h1, h2, h3, h4⟩ => ⟨a, dx, fs, e, (u.obj _ _ _ _ h1 h2).1, (u.obj _ _ _ _ h1 h2).2, h3, RL.up u l h4⟩
  | .exc _, _, h => h.elim
  | .scr l, _, ⟨a, e, h⟩ => ⟨a, e, u.scr _ _ h⟩
theorem RL.up (u : Up G.K A A' H H') : ∀ (l : List D) {xs : List V}, RL G A H l xs → RL G A' H' l xs
  | [], _, h => h
  | d :: l, _, ⟨x, r, e, h1, h2⟩ => ⟨x, r, e, R.up u d h1, RL.up u l h2⟩
end
def flat : D → Bool
  | .non | .bl _ | .int _ | .str _ => true
  | .tup l => flatL l
  | _ => false
where flatL : List D → Bool
  | [] => true
  | d :: l => flat d && flatL l
mutual
theorem R.flat : ∀ (d : D) {v : V}, flat d = true → R G A H d v → R G A' H d v
  | .non, _, _, h => h
  | .bl _, _, _, h => h
  | .int _, _, _, h => h
  | .str _, _, _, h => h
  | .tup l, _, f, ⟨a, xs, e, h1, h2⟩ => ⟨a, xs, e, h1, RL.flat l (by simpa [Pi.flat] using f) h2⟩
theorem RL.flat : ∀ (l : List D) {xs : List V}, flat.flatL l = true → RL G A H l xs → RL G A' H l xs
  | [], _, _, h => h
  | d :: l, _, f, ⟨x, r, e, h1, h2⟩ => by
    have f' : Pi.flat d = true ∧ flat.flatL l = true := by simpa [flat.flatL] using f
    exact ⟨x, r, e, R.flat d f'.1 h1, RL.flat l f'.2 h2⟩
end
end
end Pi
namespace Pi
open PySem PySem.Spec PyProof.Rows L2
structure Fr where
  H0 : Hp
  A0 : Addr → Prop
  S : Addr → Prop
  /-- what stands as it is (through a loop) -/
  L : Addr → Option HO
  /-- what the changed arguments are -/
  vl : Nat → Option V
def Fr.Sm (c : Fr) (H : Hp) : Prop := ∀ b o, ¬ c.S b → c.H0 b = some o → H b = some o
def Av (c : Fr) (O : Addr → Prop) (dp : Bool) (a : Addr) : Prop := ¬ O a ∧ (dp = true → c.H0 a = none) ∧ (c.H0 a = none ∨ c.A0 a)
theorem Av.undp {c : Fr} {O : Addr → Prop} {dp : Bool} {a : Addr} (h : Av c O dp a) : Av c O false a := ⟨h.1, fun z => by simp at z, h.2.2⟩
theorem Av.dpand {c : Fr} {O : Addr → Prop} {dp : Bool} {a : Addr} (p : Bool) (h : Av c O dp a) : Av c O (dp && p) a := ⟨h.1, fun z => h.2.1 (by revert z; cases dp <;> simp), h.2.2⟩
theorem Av.dpand' {c : Fr} {O : Addr → Prop} {dp : Bool} {a : Addr} (p : Bool) (h : Av c O dp a) : Av c O (p && dp) a := ⟨h.1, fun z => h.2.1 (by revert z; cases p <;> simp), h.2.2⟩
theorem rdS {H H' : Hp} {a : Addr} {u : HO} (h : Rd H a u) (s : Same H H') : Rd H' a u := by
  rcases h with h | ⟨o, h⟩
  · exact .inl (s _ _ h)
  · exact .inr ⟨o, s _ _ h⟩
theorem sfS {K : PySem.W.Frag} {H H' : Hp} {a : Addr} {xs : List V} (h : SqF K H a xs) (s : Same H H') : SqF K H' a xs := h.imp (fun ⟨o, h⟩ => ⟨o, s _ _ h⟩) id
theorem Up.same {K : PySem.W.Frag} {A A' : Addr → Prop} {H H' : Hp} (s : Same H H') (m : ∀ a, A a → A' a) : Up K A A' H H' :=
  ⟨fun a _ h r => ⟨m a h, s _ _ r⟩, fun a _ h r => ⟨m a h, rdS r s⟩, fun a _ _ _ h r => ⟨m a h, s _ _ r⟩, fun _ _ r => rdS r s, fun _ _ r => sfS r s⟩
def Im : HO → Prop
  | .tup _ => True
  | .frz _ (.lst _) => True
  | .frz _ (.tup _) => True
  | _ => False
def Wr : HO → Prop
  | .lst _ => True
  | .dK _ => True
  | .ins _ _ _ => True
  | _ => False
theorem rd_ne {H : Hp} {a p : Addr} {u o o' : HO} (r : Rd H a u) (hp : H p = some o) (w : Wr o) (ne : a ≠ p) : Rd (upd H p o') a u := by
  rcases r with r | ⟨q, r⟩
  · exact .inl (by rw [upd_ne ne]; exact r)
  · exact .inr ⟨q, by rw [upd_ne ne]; exact r⟩
theorem Up.write {K : PySem.W.Frag} {A : Addr → Prop} {H : Hp} {p : Addr} {o o' : HO} (hp : H p = some o) (w : Wr o) (n : ¬ A p) : Up K A A H (upd H p o') := by
  have ne : ∀ a, A a → a ≠ p := fun a h e => n (by rw [← e]; exact h)
  refine ⟨fun a xs h r => ⟨h, by rw [upd_ne (ne a h)]; exact r⟩, fun a xs h r => ⟨h, rd_ne r hp w (ne a h)⟩, fun a C dx fs h r => ⟨h, ?_⟩, fun a xs r => rd_ne r hp w ?_, fun a xs r => r.imp (fun ⟨q, r⟩ => ⟨q, ?_⟩) id⟩
  · rw [upd_ne (ne a h)]
    exact r
  · rintro rfl
    rcases r with r | ⟨q, r⟩
    · rw [hp] at r; cases r; exact w
    · rw [hp] at r; cases r; exact w
  · rw [upd_ne]
    · exact r
    · rintro rfl
      rw [hp] at r; cases r; exact w
theorem same_new {H : Hp} {p : Addr} {o : HO} (h : H p = none) : Same H (upd H p o) := fun b x e => by
  rw [upd_ne (ne_of_none e h)]
  exact e
section
variable (G : Gb) (A : Addr → Prop) (H : Hp)
def RO : D → V → List Addr → Prop
  | .lst l, v, os => ∃ a xs, v = .ref a ∧ os = [a] ∧ H a = some (.lst xs) ∧ RL G A H l xs
  | .dct ks l, v, os => ∃ a kvs, v = .ref a ∧ os = [a] ∧ H a = some (.dK kvs) ∧ kvs.map (·.1) = ks ∧ RL G A H l (kvs.map (·.2))
  | .obj c l, v, os => ∃ a dx fs, v = .ref a ∧ os = [a] ∧ H a = some (.ins (G.ca c) dx fs) ∧ fs.map (·.1) = (G.cf c).take l.length ∧ RL G A H l (fs.map (·.2))
  | .tup l, v, os => os = [] ∧ R G A H (.tup l) v
  | .non, v, os => os = [] ∧ v = .non
  | .bl b, v, os => os = [] ∧ v = .bl b
  | .int i, v, os => os = [] ∧ v = .int i
  | .str x, v, os => os = [] ∧ v = .str x
  | .exc _, _, _ => False
  | .scr l, v, os => os = [] ∧ R G A H (.scr l) v
def RB : D → V → Prop
  | .lst l, v => ∃ a xs, v = .ref a ∧ H a = some (.lst xs) ∧ RL G A H l xs
  | .scr l, v => R G A H (.scr l) v
  | .dct ks l, v => ∃ a kvs, v = .ref a ∧ Rd H a (.dK kvs) ∧ kvs.map (·.1) = ks ∧ RL G A H l (kvs.map (·.2))
  | .obj c l, v => ∃ a dx fs, v = .ref a ∧ H a = some (.ins (G.ca c) dx fs) ∧ fs.map (·.1) = (G.cf c).take l.length ∧ RL G A H l (fs.map (·.2))
  | .tup l, v => R G A H (.tup l) v
  | .non, v => v = .non
  | .bl b, v => v = .bl b
  | .int i, v => v = .int i
  | .str x, v => v = .str x
  | .exc _, _ => False
end
section
variable {G : Gb} {A A' : Addr → Prop} {H H' : Hp}
theorem R.b : ∀ {d : D} {v : V}, R G A H d v → RB G A H d v
  | .non, _, h => h
  | .bl _, _, h => h
  | .int _, _, h => h
  | .str _, _, h => h
  | .tup _, _, h => h
  | .lst _, _, ⟨a, xs, e, _, h1, h2⟩ => ⟨a, xs, e, h1, h2⟩
  | .scr _, _, h => h
  | .dct _ _, _, ⟨a, kvs, e, _, h2, h3, h4⟩ => ⟨a, kvs, e, h2, h3, h4⟩
  | .obj _ _, _, ⟨a, dx, fs, e, _, h2, h3, h4⟩ => ⟨a, dx, fs, e, h2, h3, h4⟩
  | .exc _, _, h => h.elim
theorem RO.b : ∀ {d : D} {v : V} {os : List Addr}, RO G A H d v os → RB G A H d v
  | .non, _, _, h => h.2
  | .bl _, _, _, h => h.2
  | .int _, _, _, h => h.2
  | .str _, _, _, h => h.2
  | .tup _, _, _, h => h.2
  | .lst _, _, _, ⟨a, xs, e, _, h1, h2⟩ => ⟨a, xs, e, h1, h2⟩
  | .scr _, _, _, h => h.2
  | .dct _ _, _, _, ⟨a, kvs, e, _, h2, h3, h4⟩ => ⟨a, kvs, e, .inl h2, h3, h4⟩
  | .obj _ _, _, _, ⟨a, dx, fs, e, _, h2, h3, h4⟩ => ⟨a, dx, fs, e, h2, h3, h4⟩
  | .exc _, _, _, h => h.elim
theorem RO.r : ∀ {d : D} {v : V} {os : List Addr}, RO G A H d v os → (∀ a, A a → A' a) → (∀ a, a ∈ os → A' a) → R G A' H d v
  | .non, _, _, h, _, _ => h.2
  | .bl _, _, _, h, _, _ => h.2
  | .int _, _, _, h, _, _ => h.2
  | .str _, _, _, h, _, _ => h.2
  | .tup l, _, _, h, m, _ => R.up (Up.same (Same.refl H) m) (.tup l) h.2
  | .lst l, _, _, ⟨a, xs, e, eo, h1, h2⟩, m, o => ⟨a, xs, e, o a (by rw [eo]; simp), h1, RL.up (Up.same (Same.refl H) m) l h2⟩
  | .dct _ l, _, _, ⟨a, kvs, e, eo, h2, h3, h4⟩, m, o => ⟨a, kvs, e, o a (by rw [eo]; simp), .inl h2, h3, RL.up (Up.same (Same.refl H) m) l h4⟩
  | .obj _ l, _, _, ⟨a, dx, fs, e, eo, h2, h3, h4⟩, m, o => ⟨a, dx, fs, e, o a (by rw [eo]; simp), h2, h3, RL.up (Up.same (Same.refl H) m) l h4⟩
  | .exc _, _, _, h, _, _ => h.elim
  | .scr _, _, _, h, _, _ => h.2
theorem RO.up : ∀ {d : D} {v : V} {os : List Addr}, RO G A H d v os → Up G.K A A' H H' → (∀ a o, a ∈ os → H a = some o → H' a = some o) → RO G A' H' d v os
  | .non, _, _, h, _, _ => h
  | .bl _, _, _, h, _, _ => h
  | .int _, _, _, h, _, _ => h
  | .str _, _, _, h, _, _ => h
  | .tup l, _, _, h, u, _ => ⟨h.1, R.up u (.tup l) h.2⟩
  | .lst l, _, _, ⟨a, xs, e, eo, h1, h2⟩, u, k => ⟨a, xs, e, eo, k a _ (by rw [eo]; simp) h1, RL.up u l h2⟩
  | .dct _ l, _, _, ⟨a, kvs, e, eo, h2, h3, h4⟩, u, k => ⟨a, kvs, e, eo, k a _ (by rw [eo]; simp) h2, h3, RL.up u l h4⟩
  | .obj _ l, _, _, ⟨a, dx, fs, e, eo, h2, h3, h4⟩, u, k => ⟨a, dx, fs, e, eo, k a _ (by rw [eo]; simp) h2, h3, RL.up u l h4⟩
  | .exc _, _, _, h, _, _ => h.elim
  | .scr l, _, _, h, u, _ => ⟨h.1, R.up u (.scr l) h.2⟩
theorem RB.up : ∀ {d : D} {v : V}, RB G A H d v → Up G.K A A' H H' → Same H H' → RB G A' H' d v
  | .non, _, h, _, _ => h
  | .bl _, _, h, _, _ => h
  | .int _, _, h, _, _ => h
  | .str _, _, h, _, _ => h
  | .tup l, _, h, u, _ => R.up u (.tup l) h
  | .lst l, _, ⟨a, xs, e, h1, h2⟩, u, k => ⟨a, xs, e, k _ _ h1, RL.up u l h2⟩
  | .scr l, _, h, u, _ => R.up u (.scr l) h
  | .dct _ l, _, ⟨a, kvs, e, h2, h3, h4⟩, u, k => ⟨a, kvs, e, rdS h2 k, h3, RL.up u l h4⟩
  | .obj _ l, _, ⟨a, dx, fs, e, h2, h3, h4⟩, u, k => ⟨a, dx, fs, e, k _ _ h2, h3, RL.up u l h4⟩
  | .exc _, _, h, _, _ => h.elim
theorem RB.r : ∀ {d : D} {v : V}, RB G A H d v → R G (fun _ => True) H d v
  | .non, _, h => h
  | .bl _, _, h => h
  | .int _, _, h => h
  | .str _, _, h => h
  | .tup l, _, h => R.up (Up.same (Same.refl H) fun _ _ => trivial) (.tup l) h
  | .lst l, _, ⟨a, xs, e, h1, h2⟩ => ⟨a, xs, e, trivial, h1, RL.up (Up.same (Same.refl H) fun _ _ => trivial) l h2⟩
  | .dct _ l, _, ⟨a, kvs, e, h2, h3, h4⟩ => ⟨a, kvs, e, trivial, h2, h3, RL.up (Up.same (Same.refl H) fun _ _ => trivial) l h4⟩
  | .obj _ l, _, ⟨a, dx, fs, e, h2, h3, h4⟩ => ⟨a, dx, fs, e, trivial, h2, h3, RL.up (Up.same (Same.refl H) fun _ _ => trivial) l h4⟩
  | .exc _, _, h => h.elim
  | .scr _, _, h => h
theorem RB.flat {d : D} {v : V} (f : flat d = true) (h : RB G A H d v) : R G A' H d v := by
  cases d with
  | non => exact h
  | bl _ => exact h
  | int _ => exact h
  | str _ => exact h
  | tup l => exact R.flat (.tup l) f h
  | lst _ => cases f
  | dct _ _ => cases f
  | obj _ _ => cases f
  | exc _ => cases f
  | scr _ => cases f
end
section
variable (G : Gb) (A : Addr → Prop) (H : Hp)
mutual
def RS : D → Sh → V → List Addr → Prop
  | .tup l, sh, v, os => match sh.its with
    | some e => ∃ a xs, v = .ref a ∧ SqT G.K H a xs ∧ RSP l e xs os
    | none => sh = .s ∧ os = [] ∧ R G A H (.tup l) v
  | .lst l, sh, v, os => match sh.its with
    | some e => ∃ a xs r, v = .ref a ∧ os = a :: r ∧ H a = some (.lst xs) ∧ RSP l e xs r
    | none => sh = .s ∧ os = [] ∧ R G A H (.lst l) v
  | .dct ks l, sh, v, os => match sh.its with
    | some e => ∃ a kvs r, v = .ref a ∧ os = a :: r ∧ H a = some (.dK kvs) ∧ kvs.map (·.1) = ks ∧ RSP l e (kvs.map (·.2)) r
    | none => sh = .s ∧ os = [] ∧ R G A H (.dct ks l) v
  | .obj c l, sh, v, os => match sh.fls with
    | some e => ∃ a dx fs r, v = .ref a ∧ os = a :: r ∧ H a = some (.ins (G.ca c) dx fs) ∧ fs.map (·.1) = (G.cf c).take l.length ∧ RSP l e (fs.map (·.2)) r
    | none => sh = .s ∧ os = [] ∧ R G A H (.obj c l) v
  | .scr l, _, v, os => os = [] ∧ R G A H (.scr l) v
  | .non, _, v, os => os = [] ∧ v = .non
  | .bl b, _, v, os => os = [] ∧ v = .bl b
  | .int i, _, v, os => os = [] ∧ v = .int i
  | .str x, _, v, os => os = [] ∧ v = .str x
  | .exc _, _, _, _ => False
def RSP : List D → Sh → List V → List Addr → Prop
  | [], _, xs, os => xs = [] ∧ os = []
  | d :: l, sh, xs, os => ∃ x r o1 o2, xs = x :: r ∧ os = o1 ++ o2 ∧ RS d sh.hd x o1 ∧ RSP l sh.tl r o2
end
end
section
variable {G : Gb} {A A' : Addr → Prop} {H H' : Hp}
mutual
/-- owned, then shared -/
theorem RS.r : ∀ (d : D) {sh : Sh} {v : V} {os : List Addr}, RS G A H d sh v os → (∀ a, A a → A' a) → (∀ a, a ∈ os → A' a) → R G A' H d v
  | .tup l, sh, v, os, h, m, o => by
    unfold RS at h
    split at h
    · obtain ⟨a, xs, e, h1, h2⟩ := h
      exact ⟨a, xs, e, h1, RSP.r l h2 m o⟩
    · exact R.up (Up.same (Same.refl H) m) _ h.2.2
  | .lst l, sh, v, os, h, m, o => by
    unfold RS at h
    split at h
    · obtain ⟨a, xs, r, e, eo, h1, h2⟩ := h
      exact ⟨a, xs, e, o a (by rw [eo]; simp), h1, RSP.r l h2 m fun b hb => o b (by rw [eo]; simp [hb])⟩
    · exact R.up (Up.same (Same.refl H) m) _ h.2.2
  | .dct ks l, sh, v, os, h, m, o => by
    unfold RS at h
    split at h
    · obtain ⟨a, kvs, r, e, eo, h1, h3, h2⟩ := h
      exact ⟨a, kvs, e, o a (by rw [eo]; simp), .inl h1, h3, RSP.r l h2 m fun b hb => o b (by rw [eo]; simp [hb])⟩
    · exact R.up (Up.same (Same.refl H) m) _ h.2.2
  | .obj c l, sh, v, os, h, m, o => by
    unfold RS at h
    split at h
    · obtain ⟨a, dx, fs, r, e, eo, h1, h3, h2⟩ := h
      exact ⟨a, dx, fs, e, o a (by rw [eo]; simp), h1, h3, RSP.r l h2 m fun b hb => o b (by rw [eo]; simp [hb])⟩
    · exact R.up (Up.same (Same.refl H) m) _ h.2.2
  | .scr l, _, _, _, h, m, _ => by unfold RS at h; exact h.2
  | .non, _, _, _, h, _, _ => by unfold RS at h; exact h.2
  | .bl _, _, _, _, h, _, _ => by unfold RS at h; exact h.2
  | .int _, _, _, _, h, _, _ => by unfold RS at h; exact h.2
  | .str _, _, _, _, h, _, _ => by unfold RS at h; exact h.2
  | .exc _, _, _, _, h, _, _ => by unfold RS at h; exact h.elim
theorem RSP.r : ∀ (l : List D) {sh : Sh} {xs : List V} {os : List Addr}, RSP G A H l sh xs os → (∀ a, A a → A' a) → (∀ a, a ∈ os → A' a) → RL G A' H l xs
  | [], _, _, _, h, _, _ => by unfold RSP at h; exact h.1
  | d :: l, sh, xs, os, h, m, o => by
    unfold RSP at h
    obtain ⟨x, r, o1, o2, e1, e2, h1, h2⟩ := h
    exact ⟨x, r, e1, RS.r d h1 m fun a z => o a (by rw [e2]; simp [z]), RSP.r l h2 m fun a z => o a (by rw [e2]; simp [z])⟩
end
mutual
theorem RS.up (u : Up G.K A A' H H') : ∀ (d : D) {sh : Sh} {v : V} {os : List Addr}, RS G A H d sh v os → (∀ a o, a ∈ os → H a = some o → H' a = some o) → RS G A' H' d sh v os
  | .tup l, sh, v, os, h, k => by
    unfold RS at h ⊢
    split at h
    · obtain ⟨a, xs, e, h1, h2⟩ := h
      exact ⟨a, xs, e, u.seqT h1, RSP.up u l h2 k⟩
    · exact ⟨h.1, h.2.1, R.up u _ h.2.2⟩
  | .lst l, sh, v, os, h, k => by
    unfold RS at h ⊢
    split at h
    · obtain ⟨a, xs, r, e, eo, h1, h2⟩ := h
      exact ⟨a, xs, r, e, eo, k a _ (by rw [eo]; simp) h1, RSP.up u l h2 fun b o hb => k b o (by rw [eo]; simp [hb])⟩
    · exact ⟨h.1, h.2.1, R.up u _ h.2.2⟩
  | .dct ks l, sh, v, os, h, k => by
    unfold RS at h ⊢
    split at h
    · obtain ⟨a, kvs, r, e, eo, h1, h3, h2⟩ := h
      exact ⟨a, kvs, r, e, eo, k a _ (by rw [eo]; simp) h1, h3, RSP.up u l h2 fun b o hb => k b o (by rw [eo]; simp [hb])⟩
    · exact ⟨h.1, h.2.1, R.up u _ h.2.2⟩
  | .obj c l, sh, v, os, h, k => by
    unfold RS at h ⊢
    split at h
    · obtain ⟨a, dx, fs, r, e, eo, h1, h3, h2⟩ := h
      exact ⟨a, dx, fs, r, e, eo, k a _ (by rw [eo]; simp) h1, h3, RSP.up u l h2 fun b o hb => k b o (by rw [eo]; simp [hb])⟩
    · exact ⟨h.1, h.2.1, R.up u _ h.2.2⟩
  | .scr l, _, _, _, h, _ => by unfold RS at h ⊢; exact ⟨h.1, R.up u _ h.2⟩
  | .non, _, _, _, h, _ => by unfold RS at h ⊢; exact h
  | .bl _, _, _, _, h, _ => by unfold RS at h ⊢; exact h
  | .int _, _, _, _, h, _ => by unfold RS at h ⊢; exact h
  | .str _, _, _, _, h, _ => by unfold RS at h ⊢; exact h
  | .exc _, _, _, _, h, _ => by unfold RS at h; exact h.elim
theorem RSP.up (u : Up G.K A A' H H') : ∀ (l : List D) {sh : Sh} {xs : List V} {os : List Addr}, RSP G A H l sh xs os → (∀ a o, a ∈ os → H a = some o → H' a = some o) → RSP G A' H' l sh xs os
  | [], _, _, _, h, _ => by unfold RSP at h ⊢; exact h
  | d :: l, sh, xs, os, h, k => by
    unfold RSP at h ⊢
    obtain ⟨x, r, o1, o2, e1, e2, h1, h2⟩ := h
    exact ⟨x, r, o1, o2, e1, e2, RS.up u d h1 fun a o z => k a o (by rw [e2]; simp [z]), RSP.up u l h2 fun a o z => k a o (by rw [e2]; simp [z])⟩
end
mutual
/-- what is owned is there, and may be written -/
theorem RS.wr : ∀ (d : D) {sh : Sh} {v : V} {os : List Addr}, RS G A H d sh v os → ∀ a, a ∈ os → ∃ o, H a = some o ∧ Wr o
  | .tup l, sh, v, os, h, b, hb => by
    unfold RS at h
    split at h
    · obtain ⟨a, xs, e, h1, h2⟩ := h
      exact RSP.wr l h2 b hb
    · rw [h.2.1] at hb; cases hb
  | .lst l, sh, v, os, h, b, hb => by
    unfold RS at h
    split at h
    · obtain ⟨a, xs, r, e, eo, h1, h2⟩ := h
      rw [eo] at hb
      rcases List.mem_cons.mp hb with z | z
      · rw [z]; exact ⟨_, h1, trivial⟩
      · exact RSP.wr l h2 b z
    · rw [h.2.1] at hb; cases hb
  | .dct ks l, sh, v, os, h, b, hb => by
    unfold RS at h
    split at h
    · obtain ⟨a, kvs, r, e, eo, h1, h3, h2⟩ := h
      rw [eo] at hb
      rcases List.mem_cons.mp hb with z | z
      · rw [z]; exact ⟨_, h1, trivial⟩
      · exact RSP.wr l h2 b z
    · rw [h.2.1] at hb; cases hb
  | .obj c l, sh, v, os, h, b, hb => by
    unfold RS at h
    split at h
    · obtain ⟨a, dx, fs, r, e, eo, h1, h3, h2⟩ := h
      rw [eo] at hb
      rcases List.mem_cons.mp hb with z | z
      · rw [z]; exact ⟨_, h1, trivial⟩
      · exact RSP.wr l h2 b z
    · rw [h.2.1] at hb; cases hb
  | .scr l, _, _, _, h, b, hb => by unfold RS at h; rw [h.1] at hb; cases hb
  | .non, _, _, _, h, b, hb => by unfold RS at h; rw [h.1] at hb; cases hb
  | .bl _, _, _, _, h, b, hb => by unfold RS at h; rw [h.1] at hb; cases hb
  | .int _, _, _, _, h, b, hb => by unfold RS at h; rw [h.1] at hb; cases hb
  | .str _, _, _, _, h, b, hb => by unfold RS at h; rw [h.1] at hb; cases hb
  | .exc _, _, _, _, h, _, _ => by unfold RS at h; exact h.elim
theorem RSP.wr : ∀ (l : List D) {sh : Sh} {xs : List V} {os : List Addr}, RSP G A H l sh xs os → ∀ a, a ∈ os → ∃ o, H a = some o ∧ Wr o
  | [], _, _, _, h, b, hb => by unfold RSP at h; rw [h.2] at hb; cases hb
  | d :: l, sh, xs, os, h, b, hb => by
    unfold RSP at h
    obtain ⟨x, r, o1, o2, e1, e2, h1, h2⟩ := h
    rw [e2] at hb
    rcases List.mem_append.mp hb with z | z
    · exact RS.wr d h1 b z
    · exact RSP.wr l h2 b z
end
mutual
/-- where all is owned, what is shared does not matter -/
theorem RS.any : ∀ (d : D) {v : V} {os : List Addr}, RS G A H d .u v os → RS G A' H d .u v os
  | .tup l, v, os, h => by
    unfold RS at h ⊢
    obtain ⟨a, xs, e, h1, h2⟩ := h
    exact ⟨a, xs, e, h1, RSP.any l h2⟩
  | .lst l, v, os, h => by
    unfold RS at h ⊢
    obtain ⟨a, xs, r, e, eo, h1, h2⟩ := h
    exact ⟨a, xs, r, e, eo, h1, RSP.any l h2⟩
  | .dct ks l, v, os, h => by
    unfold RS at h ⊢
    obtain ⟨a, kvs, r, e, eo, h1, h3, h2⟩ := h
    exact ⟨a, kvs, r, e, eo, h1, h3, RSP.any l h2⟩
  | .obj c l, v, os, h => by
    unfold RS at h ⊢
    obtain ⟨a, dx, fs, r, e, eo, h1, h3, h2⟩ := h
    exact ⟨a, dx, fs, r, e, eo, h1, h3, RSP.any l h2⟩
  | .scr l, _, _, h => by unfold RS at h ⊢; exact ⟨h.1, h.2⟩
  | .non, _, _, h => by unfold RS at h ⊢; exact h
  | .bl _, _, _, h => by unfold RS at h ⊢; exact h
  | .int _, _, _, h => by unfold RS at h ⊢; exact h
  | .str _, _, _, h => by unfold RS at h ⊢; exact h
  | .exc _, _, _, h => by unfold RS at h; exact h.elim
theorem RSP.any : ∀ (l : List D) {xs : List V} {os : List Addr}, RSP G A H l .u xs os → RSP G A' H l .u xs os
  | [], _, _, h => by unfold RSP at h ⊢; exact h
  | d :: l, xs, os, h => by
    unfold RSP at h ⊢
    obtain ⟨x, r, o1, o2, e1, e2, h1, h2⟩ := h
    exact ⟨x, r, o1, o2, e1, e2, RS.any d h1, RSP.any l h2⟩
end
end
section
structure Own where
  sl : Nat → List Addr
  tm : Addr → Prop
def ow (own : Own) (a : Addr) : Prop := (∃ i, a ∈ own.sl i) ∨ own.tm a
variable (G : Gb) (c : Fr) (w : Own) (H : Hp)
def RV : VF → D → V → Prop
  | .sh dp, d, v => R G (Av c (ow w) dp) H d v
  | .uq dp, d, v => ∃ os, RO G (Av c (ow w) dp) H d v os ∧ ∀ a, a ∈ os → w.tm a
  | .bo dp, d, v => RB G (Av c (ow w) dp) H d v
end
def VF.dp : VF → Bool
  | .sh d | .uq d | .bo d => d
def VF.nb : VF → Bool
  | .bo _ => false
  | _ => true
def Sub (O O' : Addr → Prop) (H : Hp) : Prop := ∀ a, O' a → O a ∨ H a = none
theorem sub_refl {O : Addr → Prop} {H : Hp} : Sub O O H := fun _ h => .inl h
theorem sub_trans {O O1 O2 : Addr → Prop} {H H1 : Hp} (a : Sub O O1 H) (s : Same H H1) (b : Sub O1 O2 H1) : Sub O O2 H := fun x h => by
  rcases b x h with z | z
  · exact a x z
  · exact .inr (s.free z)
theorem Up.grow {K : PySem.W.Frag} {c : Fr} {O O' : Addr → Prop} {d e : Bool} {H H' : Hp} (s : Same H H') (k : Sub O O' H) (hde : (d || !e) = true) : Up K (Av c O d) (Av c O' e) H H' := by
  have m : ∀ {a x}, Av c O d a → H a = some x → Av c O' e a := fun {a x} h q => by
    refine ⟨fun z => ?_, fun z => h.2.1 (by cases d <;> cases e <;> simp_all), h.2.2⟩
    rcases k a z with y | y
    · exact h.1 y
    · rw [q] at y; cases y
  refine ⟨fun a xs h r => ⟨m h r, s _ _ r⟩, fun a xs h r => ⟨?_, rdS r s⟩, fun a C dx fs h r => ⟨m h r, s _ _ r⟩, fun a xs r => rdS r s, fun a xs r => sfS r s⟩
  rcases r with r | ⟨_, r⟩
  · exact m h r
  · exact m h r
theorem Up.sub {K : PySem.W.Frag} {c : Fr} {O O' : Addr → Prop} {d e : Bool} {H : Hp} (k : ∀ a, O' a → O a) (hde : (d || !e) = true) : Up K (Av c O d) (Av c O' e) H H := Up.grow (Same.refl H) (fun a h => .inl (k a h)) hde
section
variable {G : Gb} {c : Fr} {w w' : Own} {H H' : Hp} {f : VF} {d : D} {v : V}
theorem RV.b (h : RV G c w H f d v) : RB G (Av c (ow w) f.dp) H d v := by
  cases f with
  | sh dp => exact R.b h
  | uq dp => obtain ⟨os, h, _⟩ := h; exact h.b
  | bo dp => exact h
theorem RB.grow {O O' : Addr → Prop} {p : Bool} (h : RB G (Av c O p) H d v) (s : Same H H') (k : Sub O O' H) : RB G (Av c O' p) H' d v := RB.up h (Up.grow s k (by cases p <;> rfl)) s
theorem RV.int {i : Int} (h : RV G c w H f (.int i) v) : v = .int i := h.b
theorem RV.bl {i : Bool} (h : RV G c w H f (.bl i) v) : v = .bl i := h.b
theorem RV.str {i : Str} (h : RV G c w H f (.str i) v) : v = .str i := h.b
theorem RV.non (h : RV G c w H f .non v) : v = .non := h.b
theorem RV.mkI (i : Int) : RV G c w H f (.int i) (.int i) := by cases f <;> first | exact ⟨[], ⟨rfl, rfl⟩, fun a h => by cases h⟩ | exact rfl
theorem RV.mkB (i : Bool) : RV G c w H f (.bl i) (.bl i) := by cases f <;> first | exact ⟨[], ⟨rfl, rfl⟩, fun a h => by cases h⟩ | exact rfl
theorem RV.mkS (i : Str) : RV G c w H f (.str i) (.str i) := by cases f <;> first | exact ⟨[], ⟨rfl, rfl⟩, fun a h => by cases h⟩ | exact rfl
theorem RV.mkN : RV G c w H f .non .non := by cases f <;> first | exact ⟨[], ⟨rfl, rfl⟩, fun a h => by cases h⟩ | exact rfl
end
end Pi
namespace Pi
open PySem PySem.Spec PyProof.Rows L2
def Own.put (w : Own) (i : Nat) (os : List Addr) : Own := ⟨fun j => if j = i then os else w.sl j, fun a => w.tm a ∧ a ∉ os⟩
def Own.rel (w : Own) (os : List Addr) : Own := ⟨w.sl, fun a => w.tm a ∧ a ∉ os⟩
def Own.res (w : Own) (p : Addr) : Own := ⟨w.sl, fun a => w.tm a ∨ a = p⟩
def SF.me : Option SF → Prop
  | some .z => True
  | some (.ma _) => True
  | _ => False
def SF.zf : Option SF → Prop
  | some .z => True
  | _ => False
theorem zf_set {F : List SF} {i j : Nat} {f : SF} (ne : i ≠ j) (h : SF.zf F[j]?) : SF.zf (F.set i f)[j]? := by rw [List.getElem?_set_ne ne]; exact h
theorem zf_me {o : Option SF} (h : SF.zf o) : SF.me o := by
  cases o with
  | none => exact h
  | some f => cases f <;> first | exact h.elim | trivial
section
variable (G : Gb) (c : Fr) (F : List SF) (en : En) (w : Own) (σ : L2.St) (H : Hp)
def Slt (i : Nat) : Prop :=
  match F[i]?, en[i]? with
  | some (.s dp), some (some d) => ∃ x, σ[i]? = some (some x) ∧ R G (Av c (ow w) dp) H d x
  | some (.o dp), some (some d) => ∃ x, σ[i]? = some (some x) ∧ RO G (Av c (ow w) dp) H d x (w.sl i)
  | some .z, some (some d) => ∃ x, σ[i]? = some (some x) ∧ RO G (Av c (ow w) false) H d x (w.sl i) ∧ ∀ a, a ∈ w.sl i → c.S a
  | some (.x a), _ => σ[i]? = some (some (.ref a))
  | some (.dt sh), some (some d) => ∃ x, σ[i]? = some (some x) ∧ RS G (Av c (ow w) false) H d sh x (w.sl i) ∧ (w.sl i).Nodup
  | some (.ma sh), some (some d) => ∃ x, σ[i]? = some (some x) ∧ RS G (Av c (ow w) false) H d sh x (w.sl i) ∧ (w.sl i).Nodup ∧ c.vl i = some x
  | _, _ => True
structure Ok : Prop where
  lF : F.length = σ.length
  lE : en.length = σ.length
  same : c.Sm H
  tr : ∀ a, c.S a → H a ≠ none
  dj : ∀ i j a, a ∈ w.sl i → a ∈ w.sl j → i = j
  dt : ∀ i a, a ∈ w.sl i → ¬ w.tm a
  nt : ∀ a, w.tm a → H a ≠ none ∧ c.H0 a = none
  nw : ∀ i a, a ∈ w.sl i → H a ≠ none ∧ (c.H0 a = none ∨ (SF.zf F[i]? ∧ c.S a))
  sl : ∀ i, Slt G c F en w σ H i
  lk : ∀ a o, c.L a = some o → H a = some o ∧ (Im o ∨ ¬ ow w a)
end
def VF.slot : VF → SF
  | .sh d => .s d
  | .uq d => .o d
  | .bo _ => .n
section
variable {G : Gb} {c : Fr} {F : List SF} {en : En} {w w' : Own} {σ : L2.St} {H H' : Hp}
theorem Ok.free (ok : Ok G c F en w σ H) {a : Addr} (h : H a = none) : c.H0 a = none := by
  by_cases s : c.S a
  · exact absurd h (ok.tr a s)
  · cases q : c.H0 a with
    | none => rfl
    | some o => rw [ok.same a o s q] at h; cases h
theorem Ok.trk (ok : Ok G c F en w σ H) {a : Addr} (h : ow w a) : H a ≠ none := by
  rcases h with ⟨i, hi⟩ | h
  · exact (ok.nw i a hi).1
  · exact (ok.nt a h).1
theorem Ok.get (ok : Ok G c F en w σ H) {i : Nat} {d : D} (he : en[i]? = some (some d)) {f : SF} (hf : F[i]? = some f) (hn : f ≠ .n) (hx : ∀ a, f ≠ .x a := by simp) :
    ∃ x, σ[i]? = some (some x) ∧ (match f with | .s dp => R G (Av c (ow w) dp) H d x | .o dp => RO G (Av c (ow w) dp) H d x (w.sl i) | .z => RO G (Av c (ow w) false) H d x (w.sl i) | _ => True) := by
  have s := ok.sl i
  unfold Slt at s
  rw [he, hf] at s
  cases f with
  | n => exact absurd rfl hn
  | s dp => obtain ⟨x, h1, h2⟩ := s; exact ⟨x, h1, h2⟩
  | o dp => obtain ⟨x, h1, h2⟩ := s; exact ⟨x, h1, h2⟩
  | z => obtain ⟨x, h1, h2, _⟩ := s; exact ⟨x, h1, h2⟩
  | dt sh => obtain ⟨x, h1, _⟩ := s; exact ⟨x, h1, trivial⟩
  | ma sh => obtain ⟨x, h1, _⟩ := s; exact ⟨x, h1, trivial⟩
  | x a => exact absurd rfl (hx a)
theorem same_ne {a : Addr} (s : Same H H') (h : H a ≠ none) : H' a ≠ none := by
  cases q : H a with
  | none => exact absurd q h
  | some o => rw [s _ _ q]; simp
theorem Slt.grow {i : Nat} (h : Slt G c F en w σ H i) (s : Same H H') (e : w'.sl i = w.sl i) (k : Sub (ow w) (ow w') H) : Slt G c F en w' σ H' i := by
  unfold Slt at h ⊢
  split
  · rename_i dp d hf he; rw [hf, he] at h; obtain ⟨x, h1, h2⟩ := h; exact ⟨x, h1, R.up (Up.grow s k (by cases dp <;> rfl)) _ h2⟩
  · rename_i dp d hf he; rw [hf, he] at h; obtain ⟨x, h1, h2⟩ := h; refine ⟨x, h1, ?_⟩; rw [e]; exact RO.up h2 (Up.grow s k (by cases dp <;> rfl)) fun a o _ q => s _ _ q
  · rename_i d hf he; rw [hf, he] at h; obtain ⟨x, h1, h2, h3⟩ := h; refine ⟨x, h1, ?_⟩; rw [e]; exact ⟨RO.up h2 (Up.grow s k rfl) (fun a o _ q => s _ _ q), h3⟩
  · rename_i hf; rw [hf] at h; simpa using h
  · rename_i sh d hf he; rw [hf, he] at h; obtain ⟨x, h1, h2, h3⟩ := h; refine ⟨x, h1, ?_⟩; rw [e]; exact ⟨RS.up (Up.grow s k rfl) _ h2 (fun a o _ q => s _ _ q), h3⟩
  · rename_i sh d hf he; rw [hf, he] at h; obtain ⟨x, h1, h2, h3⟩ := h; refine ⟨x, h1, ?_⟩; rw [e]; exact ⟨RS.up (Up.grow s k rfl) _ h2 (fun a o _ q => s _ _ q), h3⟩
  · trivial
theorem Ok.grow (ok : Ok G c F en w σ H) (s : Same H H') : Ok G c F en w σ H' where
  lF := ok.lF
  lE := ok.lE
  same := fun b o n e => s _ _ (ok.same b o n e)
  tr := fun a h => same_ne s (ok.tr a h)
  dj := ok.dj
  dt := ok.dt
  nt := fun a h => ⟨same_ne s (ok.nt a h).1, (ok.nt a h).2⟩
  nw := fun i a h => ⟨same_ne s (ok.nw i a h).1, (ok.nw i a h).2⟩
  sl := fun i => (ok.sl i).grow s rfl sub_refl
  lk := fun a o h => ⟨s _ _ (ok.lk a o h).1, (ok.lk a o h).2⟩
theorem Ok.res (ok : Ok G c F en w σ H) {p : Addr} {o : HO} (hp : H p = none) : Ok G c F en (w.res p) σ (upd H p o) where
  lF := ok.lF
  lE := ok.lE
  same := fun b o n e => same_new hp _ _ (ok.same b o n e)
  tr := fun a h => same_ne (same_new hp) (ok.tr a h)
  dj := ok.dj
  dt := fun i a h z => z.elim (ok.dt i a h) fun e => by subst e; exact (ok.nw i _ h).1 hp
  nt := fun a h => h.elim (fun h => ⟨same_ne (same_new hp) (ok.nt a h).1, (ok.nt a h).2⟩) fun e => by subst e; exact ⟨by rw [upd_same]; simp, ok.free hp⟩
  nw := fun i a h => ⟨same_ne (same_new hp) (ok.nw i a h).1, (ok.nw i a h).2⟩
  sl := fun i => (ok.sl i).grow (same_new hp) rfl fun a h => by
    rcases h with h | h | h
    · exact .inl (.inl h)
    · exact .inl (.inr h)
    · subst h; exact .inr hp
  lk := fun a o h => ⟨same_new hp _ _ (ok.lk a o h).1, (ok.lk a o h).2.imp id fun n z => by
    rcases z with z | z | z
    · exact n (.inl z)
    · exact n (.inr z)
    · subst z; have := (ok.lk _ o h).1; rw [hp] at this; cases this⟩
theorem sub_res {p : Addr} (hp : H p = none) : Sub (ow w) (ow (w.res p)) H := fun a h => by
  rcases h with h | h | h
  · exact .inl (.inl h)
  · exact .inl (.inr h)
  · subst h; exact .inr hp
theorem ow_rel {os : List Addr} {a : Addr} (h : ow (w.rel os) a) : ow w a := h.imp id And.left
theorem Ok.rel (ok : Ok G c F en w σ H) (os : List Addr) : Ok G c F en (w.rel os) σ H where
  lF := ok.lF
  lE := ok.lE
  same := ok.same
  tr := ok.tr
  dj := ok.dj
  dt := fun i a h z => ok.dt i a h z.1
  nt := fun a h => ok.nt a h.1
  nw := ok.nw
  sl := fun i => (ok.sl i).grow (Same.refl H) rfl fun a h => .inl (ow_rel h)
  lk := fun a o h => ⟨(ok.lk a o h).1, (ok.lk a o h).2.imp id fun n z => n (ow_rel z)⟩
theorem RV.share {f : VF} {d : D} {v : V} (ok : Ok G c F en w σ H) (h : RV G c w H f d v) (n : f.nb = true) : ∃ w', Ok G c F en w' σ H ∧ (∀ a, ow w' a → ow w a) ∧ R G (Av c (ow w') f.dp) H d v := by
  cases f with
  | sh dp => exact ⟨w, ok, fun _ h => h, h⟩
  | uq dp =>
    obtain ⟨os, h, q⟩ := h
    refine ⟨w.rel os, ok.rel os, fun _ h => ow_rel h, RO.r h (fun a z => ⟨fun y => z.1 (ow_rel y), z.2⟩) fun a z => ?_⟩
    have nn := (ok.nt a (q a z)).2
    refine ⟨fun y => ?_, fun _ => nn, .inl nn⟩
    rcases y with ⟨i, hi⟩ | y
    · exact ok.dt i a hi (q a z)
    · exact y.2 z
  | bo dp => cases n
def SF.wk : SF → SF → Bool
  | _, .n => true
  | .s d, .s e => d || !e
  | .o d, .s e => d || !e
  | .o d, .o e => d || !e
  | .z, .z => true
  | .dt sh, .s e => decide (sh = .u) || !e
  | .dt a, .dt b => decide (a = b)
  | .ma a, .ma b => decide (a = b)
  | .ma _, .s e => !e
  | .x a, .x b => a == b
  | _, _ => false
def wkL : List SF → List SF → Bool
  | [], [] => true
  | f :: F, g :: F' => f.wk g && wkL F F'
  | _, _ => false
theorem wkL_len : ∀ {F F' : List SF}, wkL F F' = true → F.length = F'.length
  | [], [], _ => rfl
  | _ :: F, _ :: F', h => by
    simp only [wkL, Bool.and_eq_true] at h
    exact congrArg Nat.succ (wkL_len h.2)
  | [], _ :: _, h => by cases h
  | _ :: _, [], h => by cases h
theorem wkL_at : ∀ {F F' : List SF} {i : Nat} {g : SF}, wkL F F' = true → F'[i]? = some g → ∃ f, F[i]? = some f ∧ f.wk g = true
  | [], [], i, g, _, e => by simp at e
  | f :: F, g :: F', 0, g', h, e => by
    simp only [wkL, Bool.and_eq_true] at h
    simp at e; subst e
    exact ⟨f, rfl, h.1⟩
  | f :: F, g :: F', i + 1, g', h, e => by
    simp only [wkL, Bool.and_eq_true] at h
    exact wkL_at (i := i) h.2 (by simpa using e)
  | [], _ :: _, _, _, h, _ => by cases h
  | _ :: _, [], _, _, h, _ => by cases h
def SF.owns : SF → Bool
  | .o _ | .z | .dt _ | .ma _ => true
  | _ => false
theorem Ok.weak (ok : Ok G c F en w σ H) {F' : List SF} (h : wkL F F' = true) : ∃ w' : Own, Ok G c F' en w' σ H ∧ (∀ a, ow w' a → ow w a) ∧ w'.tm = w.tm := by
  refine ⟨⟨fun i => if (F'[i]?.map SF.owns).getD false = true then w.sl i else [], w.tm⟩, ?_⟩
  generalize ho : (fun i => if (F'[i]?.map SF.owns).getD false = true then w.sl i else []) = sl'
  have hsub : ∀ i a, a ∈ sl' i → a ∈ w.sl i := fun i a hm => by
    rw [← ho] at hm
    dsimp only at hm
    split at hm
    · exact hm
    · cases hm
  have hs : ∀ a, ow ⟨sl', w.tm⟩ a → ow w a := fun a q => q.imp (fun ⟨i, hi⟩ => ⟨i, hsub i a hi⟩) id
  have how : ∀ i g, F'[i]? = some g → g.owns = true → sl' i = w.sl i := fun i g h1 h2 => by
    rw [← ho]
    dsimp only
    rw [h1]
    simp [h2]
  have hno : ∀ i g, F'[i]? = some g → g.owns = false → sl' i = [] := fun i g h1 h2 => by
    rw [← ho]
    dsimp only
    rw [h1]
    simp [h2]
  refine ⟨⟨(wkL_len h).symm.trans ok.lF, ok.lE, ok.same, ok.tr, fun i j a h1 h2 => ok.dj i j a (hsub i a h1) (hsub j a h2), fun i a hm => ok.dt i a (hsub i a hm), ok.nt, fun i a hm => ?_, fun i => ?_, fun a o h => ⟨(ok.lk a o h).1, (ok.lk a o h).2.imp id fun n z => n (hs a z)⟩⟩, hs, rfl⟩
  · obtain ⟨q1, q2⟩ := ok.nw i a (hsub i a hm)
    refine ⟨q1, q2.imp id fun ⟨q3, q4⟩ => ⟨?_, q4⟩⟩
    cases hg : F'[i]? with
    | none =>
      have hm' : a ∈ sl' i := hm
      rw [← ho] at hm'
      dsimp only at hm'
      rw [hg] at hm'
      simp at hm'
    | some g =>
      obtain ⟨f, hf, hw⟩ := wkL_at h hg
      rw [hf] at q3
      have hm' : a ∈ sl' i := hm
      cases g with
      | z => trivial
      | ma _ => cases f <;> first | exact False.elim q3 | cases hw
      | n => rw [hno i _ hg rfl] at hm'; cases hm'
      | s _ => rw [hno i _ hg rfl] at hm'; cases hm'
      | x _ => rw [hno i _ hg rfl] at hm'; cases hm'
      | o _ => cases f <;> first | exact False.elim q3 | cases hw
      | dt _ => cases f <;> first | exact False.elim q3 | cases hw
  · have hsl := ok.sl i
    unfold Slt at hsl ⊢
    cases hg : F'[i]? with
    | none => simp
    | some g =>
      obtain ⟨f, hf, hw⟩ := wkL_at h hg
      rw [hf] at hsl
      by_cases gx : ∃ a, g = .x a
      · obtain ⟨a, rfl⟩ := gx
        have fx : f = .x a := by
          cases f with
          | x b => have : b = a := by simpa [SF.wk] using hw
                   rw [this]
          | _ => cases hw
        subst fx
        simpa using hsl
      cases he : en[i]? with
      | none => cases g <;> first | (exact absurd ⟨_, rfl⟩ gx) | simp
      | some od =>
        cases od with
        | none => cases g <;> first | (exact absurd ⟨_, rfl⟩ gx) | simp
        | some d =>
          rw [he] at hsl
          have nz : ∀ a o, a ∈ w.sl i → H a = some o → H a = some o := fun _ _ _ z => z
          cases g with
          | n => trivial
          | x a => exact absurd ⟨_, rfl⟩ gx
          | s e =>
            cases f with
            | n => cases hw
            | z => cases hw
            | x _ => cases hw
            | s dp => obtain ⟨x, h1, h2⟩ := hsl; exact ⟨x, h1, R.up (Up.sub hs hw) _ h2⟩
            | o dp =>
              obtain ⟨x, h1, h2⟩ := hsl
              refine ⟨x, h1, RO.r h2 (fun a z => ⟨fun y => z.1 (hs a y), fun y => z.2.1 (by cases dp <;> cases e <;> simp_all [SF.wk]), z.2.2⟩) fun a z => ?_⟩
              have hnz : c.H0 a = none := ((ok.nw i a z).2.resolve_right fun ⟨q, _⟩ => by rw [hf] at q; cases q)
              refine ⟨fun y => ?_, fun _ => hnz, .inl hnz⟩
              rcases y with ⟨j, hj⟩ | y
              · have ij : i = j := ok.dj i j a z (hsub j a hj)
                subst ij
                have hj' : a ∈ sl' i := hj
                rw [hno i _ hg rfl] at hj'
                cases hj'
              · exact ok.dt i a z y
            | ma sh =>
              obtain ⟨x, h1, h2, _⟩ := hsl
              have oo : ∀ a, a ∈ w.sl i → Av c (ow ⟨sl', w.tm⟩) e a := fun a z => by
                have hnz : c.H0 a = none := ((ok.nw i a z).2.resolve_right fun ⟨q, _⟩ => by rw [hf] at q; cases q)
                refine ⟨fun y => ?_, fun _ => hnz, .inl hnz⟩
                rcases y with ⟨j, hj⟩ | y
                · have ij : i = j := ok.dj i j a z (hsub j a hj)
                  subst ij
                  have hj' : a ∈ sl' i := hj
                  rw [hno i _ hg rfl] at hj'
                  cases hj'
                · exact ok.dt i a z y
              refine ⟨x, h1, ?_⟩
              have e0 : e = false := by
                cases e with
                | false => rfl
                | true => cases hw
              exact RS.r d h2 (fun a z => ⟨fun y => z.1 (hs a y), fun y => (by rw [e0] at y; cases y), z.2.2⟩) oo
            | dt sh =>
              obtain ⟨x, h1, h2, _⟩ := hsl
              have oo : ∀ a, a ∈ w.sl i → Av c (ow ⟨sl', w.tm⟩) e a := fun a z => by
                have hnz : c.H0 a = none := ((ok.nw i a z).2.resolve_right fun ⟨q, _⟩ => by rw [hf] at q; cases q)
                refine ⟨fun y => ?_, fun _ => hnz, .inl hnz⟩
                rcases y with ⟨j, hj⟩ | y
                · have ij : i = j := ok.dj i j a z (hsub j a hj)
                  subst ij
                  have hj' : a ∈ sl' i := hj
                  rw [hno i _ hg rfl] at hj'
                  cases hj'
                · exact ok.dt i a z y
              refine ⟨x, h1, ?_⟩
              by_cases u : sh = .u
              · subst u
                exact RS.r d (RS.any d h2 (A' := fun _ => False)) (fun a z => z.elim) oo
              · have e0 : e = false := by
                  cases e with
                  | false => rfl
                  | true => simp [SF.wk, u] at hw
                exact RS.r d h2 (fun a z => ⟨fun y => z.1 (hs a y), fun y => (by rw [e0] at y; cases y), z.2.2⟩) oo
          | o e =>
            cases f with
            | n => cases hw
            | z => cases hw
            | x _ => cases hw
            | s dp => cases hw
            | o dp =>
              obtain ⟨x, h1, h2⟩ := hsl
              refine ⟨x, h1, ?_⟩
              show RO G _ H d x (sl' i)
              rw [how i _ hg rfl]
              exact RO.up h2 (Up.sub hs hw) nz
            | dt _ => cases hw
            | ma _ => cases hw
          | dt sh =>
            cases f with
            | n => cases hw
            | s dp => cases hw
            | o dp => cases hw
            | x _ => cases hw
            | z => cases hw
            | ma _ => cases hw
            | dt sh' =>
              have es : sh' = sh := of_decide_eq_true hw
              subst es
              obtain ⟨x, h1, h2, h3⟩ := hsl
              refine ⟨x, h1, ?_⟩
              show RS G _ H d sh' x (sl' i) ∧ (sl' i).Nodup
              rw [how i _ hg rfl]
              exact ⟨RS.up (Up.sub hs rfl) _ h2 nz, h3⟩
          | ma sh =>
            cases f with
            | n => cases hw
            | s dp => cases hw
            | o dp => cases hw
            | x _ => cases hw
            | z => cases hw
            | dt _ => cases hw
            | ma sh' =>
              have es : sh' = sh := of_decide_eq_true hw
              subst es
              obtain ⟨x, h1, h2, h3⟩ := hsl
              refine ⟨x, h1, ?_⟩
              show RS G _ H d sh' x (sl' i) ∧ (sl' i).Nodup ∧ c.vl i = some x
              rw [how i _ hg rfl]
              exact ⟨RS.up (Up.sub hs rfl) _ h2 nz, h3⟩
          | z =>
            cases f with
            | n => cases hw
            | s dp => cases hw
            | o dp => cases hw
            | x _ => cases hw
            | dt _ => cases hw
            | ma _ => cases hw
            | z =>
              obtain ⟨x, h1, h2, h3⟩ := hsl
              refine ⟨x, h1, ?_⟩
              show RO G _ H d x (sl' i) ∧ ∀ a, a ∈ sl' i → c.S a
              rw [how i _ hg rfl]
              exact ⟨RO.up h2 (Up.sub hs rfl) nz, h3⟩
theorem ow_put {i : Nat} {os : List Addr} {a : Addr} (h : ow (w.put i os) a) : a ∈ os ∨ ow w a := by
  rcases h with ⟨j, hj⟩ | h
  · unfold Own.put at hj
    dsimp only at hj
    split at hj
    · exact .inl hj
    · exact .inr (.inl ⟨j, hj⟩)
  · exact .inr (.inr h.1)
theorem Ok.put {f : VF} {d : D} {v : V} (ok : Ok G c F en w σ H) {i : Nat} (hi : i < F.length) (hz : ¬ SF.me F[i]?) (r : RV G c w H f d v) (n : f.nb = true) :
    ∃ w', Ok G c (F.set i f.slot) (en.set i (some d)) w' (σ.set i (some v)) H ∧ (∀ a, ow w' a → ow w a) := by
  obtain ⟨os, hos, hr⟩ : ∃ os : List Addr, (∀ a, a ∈ os → w.tm a) ∧ (match f with | .sh dp => os = [] ∧ R G (Av c (ow w) dp) H d v | .uq dp => RO G (Av c (ow w) dp) H d v os | .bo _ => False) := by
    cases f with
    | sh dp => exact ⟨[], (fun a h => by cases h), rfl, r⟩
    | uq dp => obtain ⟨os, h, q⟩ := r; exact ⟨os, q, h⟩
    | bo dp => cases n
  have hsub : ∀ a, ow (w.put i os) a → ow w a := fun a h => (ow_put h).elim (fun h => .inr (hos a h)) id
  have hσ : i < σ.length := by rw [← ok.lF]; exact hi
  refine ⟨w.put i os, ⟨by simpa using ok.lF, by simpa using ok.lE, ok.same, ok.tr, fun j k a h1 h2 => ?_, fun j a h z => ?_, fun a h => ok.nt a h.1, fun j a h => ?_, fun j => ?_, fun a o h => ⟨(ok.lk a o h).1, (ok.lk a o h).2.imp id fun n z => n (hsub a z)⟩⟩, hsub⟩
  · unfold Own.put at h1 h2
    dsimp only at h1 h2
    split at h1
    · split at h2
      · rename_i e1 e2; rw [e1, e2]
      · exact absurd (hos a h1) (ok.dt k a h2)
    · split at h2
      · exact absurd (hos a h2) (ok.dt j a h1)
      · exact ok.dj j k a h1 h2
  · have h' := h
    unfold Own.put at h'
    dsimp only at h'
    split at h'
    · exact z.2 h'
    · exact ok.dt j a h' z.1
  · unfold Own.put at h
    dsimp only at h
    split at h
    · exact ⟨(ok.nt a (hos a h)).1, .inl (ok.nt a (hos a h)).2⟩
    · rename_i ne
      obtain ⟨q1, q2⟩ := ok.nw j a h
      refine ⟨q1, q2.imp id fun ⟨q3, q4⟩ => ⟨?_, q4⟩⟩
      rw [List.getElem?_set_ne (fun e => ne e.symm)]
      exact q3
  · by_cases e : j = i
    · subst e
      unfold Slt
      rw [List.getElem?_set_self hi, List.getElem?_set_self (by rw [ok.lE]; exact hσ)]
      have es : (w.put j os).sl j = os := if_pos rfl
      cases f with
      | sh dp =>
        obtain ⟨_, h⟩ := hr
        exact ⟨v, List.getElem?_set_self hσ, R.up (Up.sub hsub (by cases dp <;> rfl)) _ h⟩
      | uq dp =>
        refine ⟨v, List.getElem?_set_self hσ, ?_⟩
        rw [es]
        exact RO.up hr (Up.sub hsub (by cases dp <;> rfl)) fun _ _ _ z => z
      | bo dp => exact hr.elim
    · have h := ok.sl j
      have es : (w.put i os).sl j = w.sl j := if_neg e
      have h2 := h.grow (w' := w.put i os) (Same.refl H) es fun a h => .inl (hsub a h)
      unfold Slt at h2 ⊢
      rw [List.getElem?_set_ne (fun z => e z.symm), List.getElem?_set_ne (fun z => e z.symm), List.getElem?_set_ne (fun z => e z.symm)]
      exact h2
end
end Pi
namespace Pi
open PySem PySem.Spec PyProof.Rows L2
def locB (sc : Scope) (x : Str) : Bool := match sc.names.lookup x with
  | some .local | some .cell => true
  | _ => false
structure Gv (G : Gb) (N : List Str) (sc : Scope) (X : Cx) : Prop where
  prog : X.prog = G.P
  w : X.w = G.w
  K : X.K = G.K
  mg : X.mg = G.mg
  base : X.base = G.base
  nN : X.N = N
  nd : N.Nodup
  sc : X.env.scope = sc
  un : X.A.units + 64 < cLine
structure Gd (G : Gb) (N : List Str) (sc : Scope) (k : Nat) (W : WX) (X : Cx) : Prop extends Gv G N sc X where
  calm : X.calm = true
  room : Room k X.A
  tk : Takes X W
  po : PassesOwn (model X.prog X.w) X.A X.env X.xe
theorem pe_imp {X : Cx} {e : Expr} {t t' : TE} (h : PE X e t) (m : ∀ σ H Q, t' σ H Q → t σ H Q) : PE X e t' := ⟨fun pins s σ H Q I q => h.run pins s σ H Q I (m σ H Q q)⟩
theorem pt_imp {X : Cx} {e : Expr} {t t' : TT} (h : PT X e t) (m : ∀ σ H Q, t' σ H Q → t σ H Q) : PT X e t' := ⟨fun pins s σ H Q I q => h.run pins s σ H Q I (m σ H Q q)⟩
theorem pa_imp {X : Cx} {e : List Expr} {t t' : TA} (h : PA X e t) (m : ∀ σ H Q, t' σ H Q → t σ H Q) : PA X e t' := ⟨fun pos pins s σ H Q I q => h.run pos pins s σ H Q I (m σ H Q q)⟩
theorem ps_imp {X : Cx} {e : Stmt} {t t' : TS} (h : PS X e t) (m : ∀ D σ H, t' D σ H → t D σ H) : PS X e t' := ⟨fun pins s σ H D I q => h.run pins s σ H D I (m D σ H q)⟩
theorem pss_imp {X : Cx} {e : List Stmt} {t t' : TS} (h : PSs X e t) (m : ∀ D σ H, t' D σ H → t D σ H) : PSs X e t' := ⟨fun pins s σ H D I q => h.run pins s σ H D I (m D σ H q)⟩
def Mt (G : Gb) (W : WX) (c : Fr) (σ : L2.St) {α : Type} (r : Rs α) (k : α → Prop) : Prop :=
  match r with
  | .ok a => k a
  | .error (.raise e) => ∀ H', c.Sm H' → W (.ref (G.xa e)) none σ H'
  | .error .stuck => False
theorem Mt.bnd {G : Gb} {W : WX} {c : Fr} {σ : L2.St} {α β : Type} {r : Rs α} {f : α → Rs β} {k : β → Prop} (h : Mt G W c σ (bnd r f) k) : Mt G W c σ r fun a => Mt G W c σ (f a) k := by
  cases r with
  | ok a => exact h
  | error e => cases e with
    | raise e => exact h
    | stuck => exact h
theorem Mt.imp {G : Gb} {W : WX} {c : Fr} {σ : L2.St} {α : Type} {r : Rs α} {k k' : α → Prop} (h : Mt G W c σ r k) (m : ∀ a, r = .ok a → k a → k' a) : Mt G W c σ r k' := by
  cases r with
  | ok a => exact m a rfl h
  | error e => cases e with
    | raise e => exact h
    | stuck => exact h
def TEv (G : Gb) (W : WX) (F F' : List SF) (f : VF) (ev : EvE) : TE := fun σ H Q => ∃ (c : Fr) (en : En) (own : Own), Ok G c F en own σ H ∧
  Mt G W c σ (ev en) fun d => ∀ v H' own', Ok G c F' en own' σ H' → Same H H' → Sub (ow own) (ow own') H → RV G c own' H' f d v → Q v H'
def RA (G : Gb) (c : Fr) (O : Addr → Prop) (H : Hp) : VF → D → V → Prop
  | .bo dp, d, v => RB G (Av c O dp) H d v
  | f, d, v => R G (Av c O f.dp) H d v
def RVL (G : Gb) (c : Fr) (O : Addr → Prop) (H : Hp) : List VF → List D → List V → Prop
  | [], ds, vs => ds = [] ∧ vs = []
  | f :: fs, ds, vs => ∃ d r v t, ds = d :: r ∧ vs = v :: t ∧ RA G c O H f d v ∧ RVL G c O H fs r t
theorem RA.up {G : Gb} {c : Fr} {O O' : Addr → Prop} {H H' : Hp} {f : VF} {d : D} {v : V} (h : RA G c O H f d v) (s : Same H H') (k : Sub O O' H) : RA G c O' H' f d v := by
  cases f with
  | sh dp => exact R.up (Up.grow s k (by cases dp <;> rfl)) _ h
  | uq dp => exact R.up (Up.grow s k (by cases dp <;> rfl)) _ h
  | bo dp => exact RB.grow h s k
theorem RA.b {G : Gb} {c : Fr} {O : Addr → Prop} {H : Hp} {f : VF} {d : D} {v : V} (h : RA G c O H f d v) : RB G (Av c O f.dp) H d v := by
  cases f with
  | sh dp => exact R.b h
  | uq dp => exact R.b h
  | bo dp => exact h
theorem RVL.up {G : Gb} {c : Fr} {O O' : Addr → Prop} {H H' : Hp} : ∀ {fs : List VF} {ds : List D} {vs : List V}, RVL G c O H fs ds vs → Same H H' → Sub O O' H → RVL G c O' H' fs ds vs
  | [], _, _, h, _, _ => h
  | _ :: fs, _, _, ⟨d, r, v, t, e1, e2, h1, h2⟩, s, k => ⟨d, r, v, t, e1, e2, h1.up s k, RVL.up (fs := fs) h2 s k⟩
def TAv (G : Gb) (W : WX) (F F' : List SF) (fs : List VF) (ev : En → Rs (List D)) : TA := fun σ H Q => ∃ (c : Fr) (en : En) (own : Own), Ok G c F en own σ H ∧
  Mt G W c σ (ev en) fun ds => ∀ vs H' own', Ok G c F' en own' σ H' → Same H H' → Sub (ow own) (ow own') H → RVL G c (ow own') H' fs ds vs → Q vs H'
def TTv (G : Gb) (W : WX) (F F' : List SF) (ev : En → Rs Bool) : TT := fun σ H Q => ∃ (c : Fr) (en : En) (own : Own), Ok G c F en own σ H ∧
  Mt G W c σ (ev en) fun b => ∀ H' own', Ok G c F' en own' σ H' → Same H H' → Sub (ow own) (ow own') H → Q b H'
section
variable {G : Gb} {W : WX} {N : List Str} {sc : Scope} {k : Nat} {X : Cx} {F F1 F2 F3 : List SF} {f f1 f2 : VF} {c : Fr} {en : En} {own : Own} {σ : L2.St} {H : Hp}
def eVar (i : Nat) : EvE := fun en => match en[i]? with
  | some (some d) => .ok d
  | _ => .error .stuck
def eC (d : D) : EvE := fun _ => .ok d
@[simp] theorem eC_ap (d : D) (en : En) : eC d en = .ok d := rfl
def SF.v : SF → VF
  | .s d => .sh d
  | .o d => .bo d
  | _ => .bo false
def SF.rd : SF → Bool
  | .n | .x _ | .dt _ | .ma _ => false
  | _ => true
def visB (sc : Scope) (x : Str) : Bool := match sc.names.lookup x with
  | some .local | some .cell | some .free => true
  | _ => false
def nameB (x : Str) : Bool := !(x == ("__debug__" : Str)) && !(x == ("__classdict__" : Str)) && !(x == ("__name__" : Str))
theorem visB_vis {x : Str} (h : visB sc x = true) (e : X.env.scope = sc) : Vis X.env.scope x := by
  rw [e]
  unfold visB at h
  split at h
  · exact .inl (by assumption)
  · exact .inr (.inl (by assumption))
  · exact .inr (.inr (by assumption))
  · cases h
theorem nameB_d {x : Str} (h : nameB x = true) : (x == ("__debug__" : Str)) = false ∧ (x == ("__classdict__" : Str)) = false ∧ x ≠ "__name__" := by
  unfold nameB at h
  simp only [Bool.and_eq_true, Bool.not_eq_true'] at h
  exact ⟨h.1.1, h.1.2, fun e => by have := h.2; rw [e] at this; simp at this⟩
theorem de_var (g : Gv G N sc X) (i : Nat) {x : Str} {pos : Pos} {fl : SF} (hN : N[i]? = some x := by rfl) (hv : visB sc x = true := by rfl) (hx : nameB x = true := by rfl) (hf : F[i]? = some fl := by rfl) (hn : fl.rd = true := by rfl) :
    PE X (.Name x pos) (TEv G W F F fl.v (eVar i)) := by
  obtain ⟨h1, h2, _⟩ := nameB_d hx
  refine pe_imp (pe_var (i := i) (by rw [g.nN]; exact hN) (visB_vis hv g.sc) h1 h2) ?_
  rintro σ H Q ⟨c, en, own, ok, m⟩
  unfold eVar at m
  split at m
  · rename_i d he
    obtain ⟨x', e1, q⟩ := ok.get he hf (fun e => by subst e; cases hn) (fun a e => by subst e; cases hn)
    refine ⟨x', e1, m x' H own ok (Same.refl H) sub_refl ?_⟩
    cases fl with
    | n => cases hn
    | x _ => cases hn
    | s dp => exact q
    | o dp => exact RO.b q
    | z => exact RO.b q
    | dt _ => cases hn
    | ma _ => cases hn
  · exact m.elim
def SF.mv : SF → SF
  | .o d => .s d
  | f => f
def SF.mvOk : SF → Bool
  | .o _ | .s _ => true
  | _ => false
def SF.mvV : SF → VF
  | .o d => .sh d
  | .s d => .sh d
  | _ => .bo false
def mvL : List SF → Nat → List SF
  | [], _ => []
  | f :: F, 0 => f.mv :: F
  | f :: F, i + 1 => f :: mvL F i
theorem mvL_wk : ∀ (F : List SF) (i : Nat), wkL F (mvL F i) = true
  | [], _ => rfl
  | f :: F, 0 => by
    have h : ∀ F : List SF, wkL F F = true := fun F => by
      induction F with
      | nil => rfl
      | cons f F ih => cases f <;> simp [wkL, SF.wk, ih]
    cases f <;> simp [mvL, wkL, SF.wk, SF.mv, h]
  | f :: F, i + 1 => by
    have := mvL_wk F i
    cases f <;> simp [mvL, wkL, SF.wk, this]
theorem mvL_at : ∀ {F : List SF} {i : Nat} {f : SF}, F[i]? = some f → (mvL F i)[i]? = some f.mv
  | [], _, _, h => by simp at h
  | f :: F, 0, _, h => by simp at h; subst h; rfl
  | f :: F, i + 1, _, h => mvL_at (F := F) (i := i) (by simpa using h)
theorem de_mv (g : Gv G N sc X) (i : Nat) {x : Str} {pos : Pos} {fl : SF} (hN : N[i]? = some x := by rfl) (hv : visB sc x = true := by rfl) (hx : nameB x = true := by rfl) (hf : F[i]? = some fl := by rfl) (hn : fl.mvOk = true := by rfl) :
    PE X (.Name x pos) (TEv G W F (mvL F i) fl.mvV (eVar i)) := by
  obtain ⟨h1, h2, _⟩ := nameB_d hx
  refine pe_imp (pe_var (i := i) (by rw [g.nN]; exact hN) (visB_vis hv g.sc) h1 h2) ?_
  rintro σ H Q ⟨c, en, own, ok, m⟩
  unfold eVar at m
  split at m
  · rename_i d he
    obtain ⟨own', ok', sb, _⟩ := ok.weak (mvL_wk F i)
    obtain ⟨x', e1, q⟩ := ok'.get he (mvL_at hf) (by cases fl <;> simp_all [SF.mv, SF.mvOk]) (by cases fl <;> simp_all [SF.mv, SF.mvOk])
    refine ⟨x', e1, m x' H own' ok' (Same.refl H) (fun a h => .inl (sb a h)) ?_⟩
    cases fl with
    | n => cases hn
    | s dp => exact q
    | o dp => exact q
    | z => cases hn
    | x _ => cases hn
    | dt _ => cases hn
    | ma _ => cases hn
  · exact m.elim
theorem de_int (i : Int) {j pos} : PE X (.Constant (.int i) j pos) (TEv G W F F (.uq true) (eC (.int i))) := by
  refine pe_imp pe_int ?_
  rintro σ H Q ⟨c, en, own, ok, m⟩
  exact m _ H own ok (Same.refl H) sub_refl (RV.mkI i)
theorem de_bl (i : Bool) {j pos} : PE X (.Constant (.bool i) j pos) (TEv G W F F (.uq true) (eC (.bl i))) := by
  refine pe_imp pe_bl ?_
  rintro σ H Q ⟨c, en, own, ok, m⟩
  exact m _ H own ok (Same.refl H) sub_refl (RV.mkB i)
theorem de_str (i : Str) {j pos} : PE X (.Constant (.str i) j pos) (TEv G W F F (.uq true) (eC (.str i))) := by
  refine pe_imp pe_str ?_
  rintro σ H Q ⟨c, en, own, ok, m⟩
  exact m _ H own ok (Same.refl H) sub_refl (RV.mkS i)
theorem de_non {j pos} : PE X (.Constant .none j pos) (TEv G W F F (.uq true) (eC .non)) := by
  refine pe_imp pe_non ?_
  rintro σ H Q ⟨c, en, own, ok, m⟩
  exact m _ H own ok (Same.refl H) sub_refl RV.mkN
def glbB (sc : Scope) (x : Str) : Bool := match sc.names.lookup x with
  | some .globalImplicit => true
  | _ => false
theorem glbB_gl {x : Str} (h : glbB sc x = true) (e : X.env.scope = sc) : Gl X x := by
  show X.env.scope.names.lookup x = _
  rw [e]
  unfold glbB at h
  split at h
  · assumption
  · cases h
structure Glo (G : Gb) (x : Str) (d : D) : Prop where
  ex : ∃ v u, G.mg x = some u ∧ RelV v u ∧ ∀ A H, R G A H d v
theorem de_glo (g : Gv G N sc X) {x : Str} {pos : Pos} {d : D} (h : Glo G x d) (hx : glbB sc x = true := by rfl) (hd : nameB x = true := by rfl) : PE X (.Name x pos) (TEv G W F F (.sh true) (eC d)) := by
  obtain ⟨v, u, e, r, q⟩ := h
  refine pe_imp (pe_glob (glbB_gl hx g.sc) (by rw [g.mg]; exact e) r (nameB_d hd).1) ?_
  rintro σ H Q ⟨c, en, own, ok, m⟩
  exact m _ H own ok (Same.refl H) sub_refl (q _ _)
def ofO {α : Type} : Option α → Rs α
  | some a => .ok a
  | none => .error .stuck
@[simp] theorem ofO_some {α : Type} (a : α) : ofO (some a) = .ok a := rfl
@[simp] theorem ofO_none {α : Type} : ofO (none : Option α) = .error .stuck := rfl
theorem Mt.ofO {α : Type} {o : Option α} {q : α → Prop} (h : Mt G W c σ (ofO o) q) : ∃ a, o = some a ∧ q a := by
  cases o with
  | none => exact h.elim
  | some a => exact ⟨a, rfl, h⟩
def eB2 (op : D → D → Option D) (a b : EvE) : EvE := fun en => bnd (a en) fun x => bnd (b en) fun y => ofO (op x y)
def eU1 (op : D → Option D) (a : EvE) : EvE := fun en => bnd (a en) fun x => ofO (op x)
def NewO (G : Gb) (A : Addr → Prop) (H : Hp) : D → HO → Prop
  | .lst l, o => ∃ xs, o = .lst xs ∧ RL G A H l xs
  | .dct ks l, o => ∃ kvs : List (Key × V), o = .dK kvs ∧ kvs.map (·.1) = ks ∧ RL G A H l (kvs.map (·.2))
  | .tup l, o => ∃ xs, o = .tup xs ∧ RL G A H l xs
  | _, _ => False
structure Kp (G : Gb) (c : Fr) (O : Addr → Prop) (H : Hp) (f : VF) (z : D) (Q : VK) : Prop where
  old : ∀ v, (match f with | .sh dp => R G (Av c O dp) H z v | .uq _ => flat z = true ∧ R G (fun _ => True) H z v | .bo dp => RB G (Av c O dp) H z v) → Q v H
  new : ∀ p o, H p = none → NewO G (Av c O f.dp) H z o → Q (.ref p) (upd H p o)
theorem flat_uq {A : Addr → Prop} {z : D} {v : V} (f : flat z = true) (h : R G (fun _ => True) H z v) : RO G A H z v [] := by
  have h' : R G A H z v := R.flat z f h
  cases z <;> first | exact ⟨rfl, h'⟩ | cases f
theorem Ok.kp {z : D} {Q : VK} (ok : Ok G c F en own σ H) (q : ∀ v H' own', Ok G c F en own' σ H' → Same H H' → Sub (ow own) (ow own') H → RV G c own' H' f z v → Q v H') : Kp G c (ow own) H f z Q := by
  refine ⟨fun v h => q v H own ok (Same.refl H) sub_refl ?_, fun p o hp h => ?_⟩
  · cases f with
    | sh dp => exact h
    | uq dp => exact ⟨[], flat_uq h.1 h.2, fun a h => by cases h⟩
    | bo dp => exact h
  · have g : ∀ (own' : Own), Sub (ow own) (ow own') H → ∀ l xs, RL G (Av c (ow own) f.dp) H l xs → RL G (Av c (ow own') f.dp) (upd H p o) l xs :=
      fun own' k l xs h => RL.up (Up.grow (same_new hp) k (by cases f.dp <;> rfl)) l h
    have np : ¬ ow own p := fun z => ok.trk z hp
    have n0 := ok.free hp
    cases f with
    | sh dp =>
      refine q _ _ own (ok.grow (same_new hp)) (same_new hp) sub_refl ?_
      have ap : Av c (ow own) dp p := ⟨np, fun _ => n0, .inl n0⟩
      cases z <;> first | exact h.elim | skip
      · obtain ⟨xs, rfl, h⟩ := h
        exact ⟨p, xs, rfl, SqT.of upd_same, g own sub_refl _ _ h⟩
      · obtain ⟨xs, rfl, h⟩ := h
        exact ⟨p, xs, rfl, ap, upd_same, g own sub_refl _ _ h⟩
      · obtain ⟨kvs, rfl, hk, h⟩ := h
        exact ⟨p, kvs, rfl, ap, .inl upd_same, hk, g own sub_refl _ _ h⟩
    | uq dp =>
      refine q _ _ (own.res p) (ok.res hp) (same_new hp) (sub_res hp) ?_
      cases z <;> first | exact h.elim | skip
      · obtain ⟨xs, rfl, h⟩ := h
        exact ⟨[], ⟨rfl, p, xs, rfl, SqT.of upd_same, g _ (sub_res hp) _ _ h⟩, fun a h => by cases h⟩
      · obtain ⟨xs, rfl, h⟩ := h
        exact ⟨[p], ⟨p, xs, rfl, rfl, upd_same, g _ (sub_res hp) _ _ h⟩, fun a h => .inr (by simpa using h)⟩
      · obtain ⟨kvs, rfl, hk, h⟩ := h
        exact ⟨[p], ⟨p, kvs, rfl, rfl, upd_same, hk, g _ (sub_res hp) _ _ h⟩, fun a h => .inr (by simpa using h)⟩
    | bo dp =>
      refine q _ _ own (ok.grow (same_new hp)) (same_new hp) sub_refl ?_
      cases z <;> first | exact h.elim | skip
      · obtain ⟨xs, rfl, h⟩ := h
        exact ⟨p, xs, rfl, SqT.of upd_same, g own sub_refl _ _ h⟩
      · obtain ⟨xs, rfl, h⟩ := h
        exact ⟨p, xs, rfl, upd_same, g own sub_refl _ _ h⟩
      · obtain ⟨kvs, rfl, hk, h⟩ := h
        exact ⟨p, kvs, rfl, .inl upd_same, hk, g own sub_refl _ _ h⟩
def OpS (G : Gb) (fo : Bool → Bool → VF) (r : R2) (op : D → D → Option D) : Prop := ∀ (c : Fr) (O : Addr → Prop) (H : Hp) (x y z : D) (v1 v2 : V) (p1 p2 : Bool) (Q : VK),
  RB G (Av c O p1) H x v1 → RB G (Av c O p2) H y v2 → op x y = some z → Kp G c O H (fo p1 p2) z Q → r v1 v2 H Q
theorem OpS.core {fo : Bool → Bool → VF} {r : R2} {op : D → D → Option D} {ta tb : TE} {ea eb : EvE} (h : OpS G fo r op) (ha : ∀ σ H Q, TEv G W F F1 f1 ea σ H Q → ta σ H Q) (hb : ∀ σ H Q, TEv G W F1 F2 f2 eb σ H Q → tb σ H Q) :
    ∀ σ H Q, TEv G W F F2 (fo f1.dp f2.dp) (eB2 op ea eb) σ H Q → tOp r ta tb σ H Q := by
  rintro σ H Q ⟨c, en, own, ok, m⟩
  refine ha _ _ _ ⟨c, en, own, ok, m.bnd.imp fun x _ mx v1 H1 own1 ok1 s1 b1 r1 => ?_⟩
  refine hb _ _ _ ⟨c, en, own1, ok1, mx.bnd.imp fun y _ my v2 H2 own2 ok2 s2 b2 r2 => ?_⟩
  obtain ⟨z, ez, q⟩ := my.ofO
  exact h c _ H2 x y z v1 v2 _ _ Q (RB.grow r1.b s2 b2) r2.b ez (ok2.kp fun v H3 own3 ok3 s3 b3 r3 => q v H3 own3 ok3 ((s1.trans s2).trans s3) (sub_trans (sub_trans b1 s1 b2) (s1.trans s2) b3) r3)
theorem de_op {o : Operator} {a b : Expr} {pos : Pos} {fo : Bool → Bool → VF} {r : R2} {op : D → D → Option D} {ea eb : EvE} (ho : OpR X (binaryOp o) r) (h : OpS G fo r op) (ha : PE X a (TEv G W F F1 f1 ea)) (hb : PE X b (TEv G W F1 F2 f2 eb)) :
    PE X (.BinOp a o b pos) (TEv G W F F2 (fo f1.dp f2.dp) (eB2 op ea eb)) := pe_imp (pe_op ho ha hb) (h.core (fun _ _ _ z => z) fun _ _ _ z => z)
theorem de_cmp {o : CmpOp} {a b : Expr} {pos : Pos} {fo : Bool → Bool → VF} {r : R2} {op : D → D → Option D} {ea eb : EvE} (ho : OpR X (compareOp o) r) (h : OpS G fo r op) (ha : PE X a (TEv G W F F1 f1 ea)) (hb : PE X b (TEv G W F1 F2 f2 eb)) (hm : behindInMarks o b = false := by rfl) :
    PE X (.Compare a [o] [b] pos) (TEv G W F F2 (fo f1.dp f2.dp) (eB2 op ea eb)) := pe_imp (pe_cmpR ho ha hb hm) (h.core (fun _ _ _ z => z) fun _ _ _ z => z)
def asB : D → Option Bool
  | .bl b => some b
  | _ => none
def tV (ev : EvE) : En → Rs Bool := fun en => bnd (ev en) fun d => ofO (asB d)
theorem tV_core {ev : EvE} {t : TE} (h : ∀ σ H Q, TEv G W F F1 f ev σ H Q → t σ H Q) : ∀ σ H Q, TTv G W F F1 (tV ev) σ H Q → tTest t σ H Q := by
  rintro σ H Q ⟨c, en, own, ok, m⟩
  refine h _ _ _ ⟨c, en, own, ok, m.bnd.imp fun d _ md v H1 own1 ok1 s1 b1 r1 => ?_⟩
  obtain ⟨b, eb, q⟩ := md.ofO
  cases d <;> first | (cases eb; exact ⟨_, r1.bl, q H1 own1 ok1 s1 b1⟩) | cases eb
theorem dt_cmp {o : CmpOp} {a b : Expr} {pos : Pos} {fo : Bool → Bool → VF} {r : R2} {op : D → D → Option D} {ea eb : EvE} (ho : OpR X (compareOp o) r) (h : OpS G fo r op) (ha : PE X a (TEv G W F F1 f1 ea)) (hb : PE X b (TEv G W F1 F2 f2 eb)) (hm : behindInMarks o b = false := by rfl) :
    PT X (.Compare a [o] [b] pos) (TTv G W F F2 (tV (eB2 op ea eb))) := pt_imp (pt_cmpR ho ha hb hm) (tV_core (h.core (fun _ _ _ z => z) fun _ _ _ z => z))
theorem dt_val {e : Expr} {ev : EvE} (he : PE X e (TEv G W F F1 f ev)) (hs : ∀ whole, isTrue e X.env whole = (do let v ← whole; standAt e.pos; holding [v] (truthy v)) := by intro _; rfl) : PT X e (TTv G W F F1 (tV ev)) :=
  pt_imp (pt_val he hs) (tV_core fun _ _ _ z => z)
def tNt (t : En → Rs Bool) : En → Rs Bool := fun en => bnd (t en) fun b => .ok (!b)
def tAn (t u : En → Rs Bool) : En → Rs Bool := fun en => bnd (t en) fun b => if b = true then u en else .ok false
def tO (t u : En → Rs Bool) : En → Rs Bool := fun en => bnd (t en) fun b => if b = true then .ok true else u en
theorem dt_not {a : Expr} {pos : Pos} {t : En → Rs Bool} (ha : PT X a (TTv G W F F1 t)) : PT X (.UnaryOp .Not a pos) (TTv G W F F1 (tNt t)) := by
  refine pt_imp (pt_not ha) ?_
  rintro σ H Q ⟨c, en, own, ok, m⟩
  exact ⟨c, en, own, ok, m.bnd.imp fun b _ mb H1 own1 ok1 s1 b1 => mb H1 own1 ok1 s1 b1⟩
theorem dw_and1 {a : Expr} {pos : Pos} {t : En → Rs Bool} (ha : PT X a (TTv G W F F1 t)) : PW X (.BoolOp .And [a] pos) (TTv G W F F1 t) := pw_and1 ha
theorem dw_or1 {a : Expr} {pos : Pos} {t : En → Rs Bool} (ha : PT X a (TTv G W F F1 t)) : PW X (.BoolOp .Or [a] pos) (TTv G W F F1 t) := pw_or1 ha
theorem pw_imp {X : Cx} {e : Expr} {t t' : TT} (h : PW X e t) (m : ∀ σ H Q, t' σ H Q → t σ H Q) : PW X e t' := ⟨fun wh pins s σ H Q I q => h.run wh pins s σ H Q I (m σ H Q q)⟩
theorem dw_and {a b : Expr} {rest : List Expr} {pos : Pos} {t u : En → Rs Bool} (ha : PT X a (TTv G W F F t)) (hb : PW X (.BoolOp .And (b :: rest) pos) (TTv G W F F u)) : PW X (.BoolOp .And (a :: b :: rest) pos) (TTv G W F F (tAn t u)) := by
  refine pw_imp (pw_and ha hb) ?_
  rintro σ H Q ⟨c, en, own, ok, m⟩
  refine ⟨c, en, own, ok, m.bnd.imp fun b _ mb H1 own1 ok1 s1 b1 => ?_⟩
  cases b with
  | true =>
    refine iteT ⟨c, en, own1, ok1, ?_⟩
    rw [if_pos rfl] at mb
    exact mb.imp fun x _ q H2 own2 ok2 s2 b2 => q H2 own2 ok2 (s1.trans s2) (sub_trans b1 s1 b2)
  | false =>
    rw [if_neg (by decide)] at mb
    exact iteF (mb H1 own1 ok1 s1 b1)
theorem dw_or {a b : Expr} {rest : List Expr} {pos : Pos} {t u : En → Rs Bool} (ha : PT X a (TTv G W F F t)) (hb : PW X (.BoolOp .Or (b :: rest) pos) (TTv G W F F u)) : PW X (.BoolOp .Or (a :: b :: rest) pos) (TTv G W F F (tO t u)) := by
  refine pw_imp (pw_or ha hb) ?_
  rintro σ H Q ⟨c, en, own, ok, m⟩
  refine ⟨c, en, own, ok, m.bnd.imp fun b _ mb H1 own1 ok1 s1 b1 => ?_⟩
  cases b with
  | true =>
    rw [if_pos rfl] at mb
    exact iteT (mb H1 own1 ok1 s1 b1)
  | false =>
    refine iteF ⟨c, en, own1, ok1, ?_⟩
    rw [if_neg (by decide)] at mb
    exact mb.imp fun x _ q H2 own2 ok2 s2 b2 => q H2 own2 ok2 (s1.trans s2) (sub_trans b1 s1 b2)
theorem dt_w {e : Expr} {t : En → Rs Bool} (h : PW X e (TTv G W F F1 t)) : PT X e (TTv G W F F1 t) := h.pt
def eAn (a b : EvE) : EvE := fun en => bnd (a en) fun d => bnd (ofO (asB d)) fun c => if c = true then b en else .ok (.bl false)
def eOr (a b : EvE) : EvE := fun en => bnd (a en) fun d => bnd (ofO (asB d)) fun c => if c = true then .ok (.bl true) else b en
def eNt (a : EvE) : EvE := fun en => bnd (a en) fun d => bnd (ofO (asB d)) fun c => .ok (.bl (!c))
theorem de_one {op} {a : Expr} {pos : Pos} {ev : EvE} (h : PE X a (TEv G W F F1 f ev)) : PE X (.BoolOp op [a] pos) (TEv G W F F1 f ev) := pe_one h
theorem de_and {a b : Expr} {rest : List Expr} {pos : Pos} {ea eb : EvE} (ha : PE X a (TEv G W F F f1 ea)) (hb : PE X (.BoolOp .And (b :: rest) pos) (TEv G W F F f2 eb)) : PE X (.BoolOp .And (a :: b :: rest) pos) (TEv G W F F f2 (eAn ea eb)) := by
  refine pe_imp (pe_and ha hb) ?_
  rintro σ H Q ⟨c, en, own, ok, m⟩
  refine ⟨c, en, own, ok, m.bnd.imp fun x _ mx v1 H1 own1 ok1 s1 b1 r1 => ?_⟩
  obtain ⟨b, eb', q⟩ := mx.bnd.ofO
  cases x <;> first | cases eb' | skip
  refine ⟨_, r1.bl, ?_⟩
  cases b with
  | true =>
    rw [if_pos rfl] at q
    exact iteT ⟨c, en, own1, ok1, q.imp fun y _ q v2 H2 own2 ok2 s2 b2 r2 => q v2 H2 own2 ok2 (s1.trans s2) (sub_trans b1 s1 b2) r2⟩
  | false =>
    rw [if_neg (by decide)] at q
    exact iteF (q _ H1 own1 ok1 s1 b1 (RV.mkB false))
theorem de_not {a : Expr} {pos : Pos} {ea : EvE} (ha : PE X a (TEv G W F F1 f1 ea)) : PE X (.UnaryOp .Not a pos) (TEv G W F F1 (.uq true) (eNt ea)) := by
  refine pe_imp (pe_not ha) ?_
  rintro σ H Q ⟨c, en, own, ok, m⟩
  refine ⟨c, en, own, ok, m.bnd.imp fun x _ mx v1 H1 own1 ok1 s1 b1 r1 => ?_⟩
  obtain ⟨b, eb', q⟩ := mx.bnd.ofO
  cases x <;> first | cases eb' | skip
  exact ⟨_, r1.bl, q _ H1 own1 ok1 s1 b1 (RV.mkB _)⟩
def aNil : En → Rs (List D) := fun _ => .ok []
def aCons (a : EvE) (r : En → Rs (List D)) : En → Rs (List D) := fun en => bnd (a en) fun d => bnd (r en) fun ds => .ok (d :: ds)
theorem da_nil : PA X [] (TAv G W F F [] aNil) := by
  refine pa_imp pa_nil ?_
  rintro σ H Q ⟨c, en, own, ok, m⟩
  exact m [] H own ok (Same.refl H) sub_refl ⟨rfl, rfl⟩
theorem RV.arg {d : D} {v : V} (ok : Ok G c F en own σ H) (h : RV G c own H f d v) : ∃ own', Ok G c F en own' σ H ∧ (∀ a, ow own' a → ow own a) ∧ RA G c (ow own') H f d v := by
  cases f with
  | sh dp => exact ⟨own, ok, fun _ h => h, h⟩
  | uq dp => exact RV.share ok h rfl
  | bo dp => exact ⟨own, ok, fun _ h => h, h⟩
theorem da_cons {e : Expr} {es : List Expr} {fs : List VF} {ea : EvE} {er : En → Rs (List D)} (ha : PE X e (TEv G W F F1 f1 ea)) (hr : PA X es (TAv G W F1 F2 fs er)) (hs : starEach (e :: es) X.env = (false, eval e X.env) :: starEach es X.env := by rfl) :
    PA X (e :: es) (TAv G W F F2 (f1 :: fs) (aCons ea er)) := by
  refine pa_imp (pa_cons ha hr hs) ?_
  rintro σ H Q ⟨c, en, own, ok, m⟩
  refine ⟨c, en, own, ok, m.bnd.imp fun x _ mx v1 H1 own1 ok1 s1 b1 r1 => ?_⟩
  obtain ⟨own1', ok1', k1, a1⟩ := RV.arg ok1 r1
  refine ⟨c, en, own1', ok1', mx.bnd.imp fun ds _ q vs H2 own2 ok2 s2 b2 r2 => ?_⟩
  have b1' : Sub (ow own) (ow own1') H := fun a h => b1 a (k1 a h)
  exact q (v1 :: vs) H2 own2 ok2 (s1.trans s2) (sub_trans b1' s1 b2) ⟨x, ds, v1, vs, rfl, rfl, a1.up s2 b2, r2⟩
end
end Pi
namespace Pi
open PySem PySem.Spec PyProof.Rows L2
theorem opr_or {X : Cx} {f : Value → Value → Sem Value} {r1 r2 : R2} (h1 : OpR X f r1) (h2 : OpR X f r2) : OpR X f (fun x y H Q => r1 x y H Q ∨ r2 x y H Q) := by
  intro pins s σ H x y v u Q I rx ry h
  rcases h with h | h
  · exact h1 pins s σ H x y v u Q I rx ry h
  · exact h2 pins s σ H x y v u Q I rx ry h
section
variable {G : Gb} {c : Fr} {O : Addr → Prop} {H : Hp}
theorem RL.an {A A' : Addr → Prop} {l : List D} {xs : List V} (h : RL G A H l xs) (m : ∀ a, A a → A' a) : RL G A' H l xs := RL.up (Up.same (Same.refl H) m) l h
theorem R.an {A A' : Addr → Prop} {d : D} {v : V} (h : R G A H d v) (m : ∀ a, A a → A' a) : R G A' H d v := R.up (Up.same (Same.refl H) m) d h
end
section
variable {G : Gb} {c : Fr} {O : Addr → Prop} {H : Hp} {f : VF} {Q : VK}
theorem Kp.fl {z : D} {v : V} (k : Kp G c O H f z Q) (h : R G (fun _ => True) H z v) (hf : flat z = true) : Q v H := k.old v (by
  cases f with
  | sh dp => exact R.flat z hf h
  | uq dp => exact ⟨hf, h⟩
  | bo dp => exact (R.flat (A' := Av c O dp) z hf h).b)
theorem Kp.int {i : Int} (k : Kp G c O H f (.int i) Q) : Q (.int i) H := k.fl rfl rfl
theorem Kp.bl {i : Bool} (k : Kp G c O H f (.bl i) Q) : Q (.bl i) H := k.fl rfl rfl
theorem Kp.str {i : Str} (k : Kp G c O H f (.str i) Q) : Q (.str i) H := k.fl rfl rfl
theorem Kp.non (k : Kp G c O H f .non Q) : Q .non H := k.fl rfl rfl
end
def oAdd : D → D → Option D
  | .int i, .int j => some (.int (i + j))
  | .str x, .str y => if x.length + y.length ≤ sizeLine then some (.str (x ++ y)) else none
  | .lst l, .lst m => if l.length + m.length ≤ sizeLine then some (.lst (l ++ m)) else none
  | _, _ => none
def rAdd3 : R2 := fun x y H Q => (rI0 (fun i j => V.int (i + j)) x y H Q) ∨ (∃ i j, x = .str i ∧ y = .str j ∧ i.length + j.length ≤ sizeLine ∧ Q (.str (i ++ j)) H) ∨ rCat x y H Q
theorem opr_add {X : Cx} : OpR X (binaryOp .Add) rAdd3 := opr_or op_add (opr_or op_add_str op_cat)
abbrev foA : Bool → Bool → VF := fun p q => .uq (p && q)
abbrev foT : Bool → Bool → VF := fun _ _ => .uq true
theorem ops_add {G : Gb} : OpS G foA rAdd3 oAdd := by
  intro c O H x y z v1 v2 p1 p2 Q h1 h2 e q
  cases x with
  | int i =>
    cases y <;> first | (simp [oAdd] at e; done) | skip
    cases e
    exact .inl ⟨i, _, h1, h2, q.int⟩
  | str i =>
    cases y <;> first | (simp [oAdd] at e; done) | skip
    rename_i j
    simp only [oAdd] at e
    split at e
    · cases e
      exact .inr (.inl ⟨i, j, h1, h2, by assumption, q.str⟩)
    · cases e
  | lst l =>
    cases y <;> first | (simp [oAdd] at e; done) | skip
    rename_i m
    simp only [oAdd] at e
    split at e
    · rename_i hl
      cases e
      obtain ⟨a, xs, rfl, e1, r1⟩ := h1
      obtain ⟨b, ys, rfl, e2, r2⟩ := h2
      refine .inr (.inr ⟨a, b, xs, ys, rfl, rfl, e1, e2, by rw [r1.len, r2.len]; exact hl, fun p hp => q.new p _ hp ⟨_, rfl, RL.app ?_ ?_⟩⟩)
      · exact r1.an fun a h => h.dpand p2
      · exact r2.an fun a h => h.dpand' p1
    · cases e
  | _ => simp [oAdd] at e
def oI (g : Int → Int → Option Int) : D → D → Option D
  | .int i, .int j => (g i j).map .int
  | _, _ => none
theorem ops_I {G : Gb} {C : Int → Int → Prop} {g : Int → Int → Option Int} {g' : Int → Int → Int} (h : ∀ i j z, g i j = some z → C i j ∧ z = g' i j) : OpS G foT (rI C fun i j => .int (g' i j)) (oI g) := by
  intro c O H x y z v1 v2 p1 p2 Q h1 h2 e q
  cases x <;> first | (simp [oI] at e; done) | skip
  cases y <;> first | (simp [oI] at e; done) | skip
  rename_i i j
  simp only [oI, Option.map_eq_some_iff] at e
  obtain ⟨z', e1, rfl⟩ := e
  obtain ⟨h3, rfl⟩ := h i j z' e1
  exact ⟨i, j, h1, h2, h3, q.int⟩
theorem opr_sub {X : Cx} : OpR X (binaryOp .Sub) (rI (fun _ _ => True) fun i j => .int (i - j)) := opI fun _ _ _ _ _ _ _ _ q => sub_int q
def oSub : D → D → Option D := oI fun i j => some (i - j)
theorem ops_sub {G : Gb} : OpS G foT (rI (fun _ _ => True) fun i j => .int (i - j)) oSub := ops_I fun i j z e => ⟨trivial, (Option.some.inj e).symm⟩
def mulOk (i j : Int) : Bool := decide (i.natAbs < 18446744073709551616) || decide (j.natAbs < 18446744073709551616) || decide (i.natAbs.log2 + j.natAbs.log2 < 100000000)
theorem mulOk_ok {i j : Int} (h : mulOk i j = true) : IntMulOk i j := by
  unfold mulOk at h
  simp only [Bool.or_eq_true, decide_eq_true_eq] at h
  rcases h with (h | h) | h
  · exact .of_left (intBits_le_64 (by omega) (by omega))
  · exact .of_right (intBits_le_64 (by omega) (by omega))
  · have b : ∀ x : Int, Builtin.Int.intBits x ≤ x.natAbs.log2 + 1 := fun x => by
      unfold Builtin.Int.intBits
      split <;> omega
    have h1 := b i
    have h2 := b j
    have e : bitsLine = 134217728 := by decide
    unfold IntMulOk
    intro z
    rw [Bool.and_eq_true] at z
    have z2 := z.2
    unfold Builtin.Int.intTooBig at z2
    have z3 := of_decide_eq_true z2
    rw [e] at z3
    omega
def oMul : D → D → Option D
  | .int i, .int j => if mulOk i j = true then some (.int (i * j)) else none
  | .lst l, .int j => if j.toNat < 1048576 ∧ l.length * j.toNat ≤ sizeLine ∧ -1048576 ≤ j then some (.lst (List.replicate j.toNat l).flatten) else none
  | _, _ => none
theorem opr_mul {X : Cx} : OpR X (binaryOp .Mult) (fun x y H Q => rI IntMulOk (fun i j => .int (i * j)) x y H Q ∨ rRep x y H Q) := opr_or (opI fun _ _ _ _ _ _ _ hc q => mul_int q hc) op_rep
theorem RL.rep {G : Gb} {A : Addr → Prop} {H : Hp} {l : List D} {xs : List V} (h : RL G A H l xs) : ∀ n : Nat, RL G A H (List.replicate n l).flatten (List.replicate n xs).flatten
  | 0 => rfl
  | n + 1 => by
    rw [List.replicate_succ, List.replicate_succ, List.flatten_cons, List.flatten_cons]
    exact RL.app h (RL.rep h n)
theorem ops_mul {G : Gb} : OpS G foA (fun x y H Q => rI IntMulOk (fun i j => .int (i * j)) x y H Q ∨ rRep x y H Q) oMul := by
  intro c O H x y z v1 v2 p1 p2 Q h1 h2 e q
  cases x with
  | int i =>
    cases y <;> first | (simp [oMul] at e; done) | skip
    rename_i j
    simp only [oMul] at e
    split at e
    · rename_i hm
      cases e
      exact .inl ⟨i, j, h1, h2, mulOk_ok hm, q.int⟩
    · cases e
  | lst l =>
    cases y <;> first | (simp [oMul] at e; done) | skip
    rename_i j
    simp only [oMul] at e
    split at e
    · rename_i hl
      cases e
      obtain ⟨a, xs, rfl, e1, r1⟩ := h1
      refine .inr ⟨a, j, xs, rfl, h2, e1, by omega, by omega, by rw [r1.len]; exact hl.2.1, fun p hp => q.new p _ hp ⟨_, rfl, RL.rep ?_ _⟩⟩
      exact r1.an fun a h => h.dpand p2
    · cases e
  | _ => simp [oMul] at e
def oMod : D → D → Option D := oI fun i j => if j = 0 then none else some (i.fmod j)
theorem ops_mod {G : Gb} : OpS G foT (rI (fun _ j => j ≠ 0) fun i j => .int (i.fmod j)) oMod := ops_I fun i j z e => by
  split at e
  · cases e
  · rename_i h; exact ⟨h, (Option.some.inj e).symm⟩
def divOk (i j : Int) : Bool := decide (j ≠ 0) && (decide (j.natAbs.log2 < 9000) || !Builtin.divisionGoesByPylong i j)
theorem opr_div {X : Cx} : OpR X (binaryOp .FloorDiv) (rI (fun i j => divOk i j = true) fun i j => .int (i.fdiv j)) := opI fun i j _ _ _ _ _ hc q => by
  have h : j ≠ 0 ∧ (j.natAbs.log2 < 9000 ∨ Builtin.divisionGoesByPylong i j = false) := by simpa [divOk] using hc
  exact floordiv_int h.1 q (.inl (h.2.elim PyProof.noPylong_of_log2 id))
def oDiv : D → D → Option D := oI fun i j => if divOk i j = true then some (i.fdiv j) else none
theorem ops_div {G : Gb} : OpS G foT (rI (fun i j => divOk i j = true) fun i j => .int (i.fdiv j)) oDiv := ops_I fun i j z e => by
  split at e
  · rename_i h; exact ⟨h, (Option.some.inj e).symm⟩
  · cases e
def oPow : D → D → Option D := oI fun i j => if 0 ≤ j ∧ j ≤ 1000000 ∧ i.natAbs < 18446744073709551616 then some (i ^ j.toNat) else none
theorem ops_pow {G : Gb} : OpS G foT (rI CPow fun i j => .int (i ^ j.toNat)) oPow := ops_I fun i j z e => by
  split at e
  · rename_i h; exact ⟨⟨h.1, h.2.1, h.2.2⟩, (Option.some.inj e).symm⟩
  · cases e
end Pi
namespace Pi
open PySem PySem.Spec PyProof.Rows L2
mutual
def toP : D → PyData
  | .non => .none
  | .bl b => .bool b
  | .int i => .int i
  | .str x => .str x
  | .tup l => .tuple (toPL l)
  | .lst l => .list (toPL l)
  | _ => .none
def toPL : List D → List PyData
  | [] => []
  | d :: l => toP d :: toPL l
end
mutual
/-- plain, and no deeper than n -/
def pl : D → Nat → Bool
  | .non, _ => true
  | .bl _, _ => true
  | .int _, _ => true
  | .str _, _ => true
  | .tup l, n => match n with
    | 0 => false
    | n + 1 => plL l n
  | .lst l, n => match n with
    | 0 => false
    | n + 1 => plL l n
  | _, _ => false
def plL : List D → Nat → Bool
  | [], _ => true
  | d :: l, n => pl d n && plL l n
end
mutual
theorem pl_plain : ∀ (d : D) (n : Nat), pl d n = true → (toP d).plain = true ∧ (toP d).depth ≤ n
  | .non, n, _ => ⟨rfl, by simp [toP, PyData.depth]⟩
  | .bl _, n, _ => ⟨rfl, by simp [toP, PyData.depth]⟩
  | .int _, n, _ => ⟨rfl, by simp [toP, PyData.depth]⟩
  | .str _, n, _ => ⟨rfl, by simp [toP, PyData.depth]⟩
  | .tup l, n, h => by
    cases n with
    | zero => simp [pl] at h
    | succ n =>
      have q := plL_plain l n (by simpa [pl] using h)
      exact ⟨by simpa [toP, PyData.plain] using q.1, by simp [toP, PyData.depth]; exact q.2⟩
  | .lst l, n, h => by
    cases n with
    | zero => simp [pl] at h
    | succ n =>
      have q := plL_plain l n (by simpa [pl] using h)
      exact ⟨by simpa [toP, PyData.plain] using q.1, by simp [toP, PyData.depth]; exact q.2⟩
theorem plL_plain : ∀ (l : List D) (n : Nat), plL l n = true → PyData.plainAll (toPL l) = true ∧ PyData.depthAll (toPL l) ≤ n
  | [], n, _ => ⟨rfl, by simp [toPL, PyData.depthAll]⟩
  | d :: l, n, h => by
    have h' : pl d n = true ∧ plL l n = true := by simpa [plL] using h
    have q1 := pl_plain d n h'.1
    have q2 := plL_plain l n h'.2
    refine ⟨by simp [toPL, PyData.plainAll, q1.1, q2.1], ?_⟩
    simp only [toPL, PyData.depthAll]
    omega
end
section
variable {G : Gb} {A : Addr → Prop} {H : Hp}
theorem pl_tup {l : List D} {n : Nat} (h : pl (.tup l) n = true) : ∃ m, plL l m = true := by
  cases n with
  | zero => simp [pl] at h
  | succ n => exact ⟨n, by simpa [pl] using h⟩
theorem pl_lst {l : List D} {n : Nat} (h : pl (.lst l) n = true) : ∃ m, plL l m = true := by
  cases n with
  | zero => simp [pl] at h
  | succ n => exact ⟨n, by simpa [pl] using h⟩
mutual
theorem R.dp : ∀ (d : D), (∃ n, pl d n = true) → ∀ v : V, R G A H d v → Dp G.K H v (toP d)
  | .non, _, _, h => by rw [show _ = V.non from h]; exact .non
  | .bl b, _, _, h => by rw [show _ = V.bl b from h]; exact .bl b
  | .int i, _, _, h => by rw [show _ = V.int i from h]; exact .int i
  | .str x, _, _, h => by rw [show _ = V.str x from h]; exact .str x
  | .tup l, hp, v, h => by
    obtain ⟨a, xs, e, h1, h2⟩ := h
    rw [e]
    exact .tup h1 (RL.dp l (hp.elim fun _ h => pl_tup h) xs h2)
  | .lst l, hp, v, h => by
    obtain ⟨a, xs, e, _, h1, h2⟩ := h
    rw [e]
    exact .lst (SqL.of h1) (RL.dp l (hp.elim fun _ h => pl_lst h) xs h2)
  | .dct _ _, hp, _, _ => by obtain ⟨n, h⟩ := hp; simp [pl] at h
  | .obj _ _, hp, _, _ => by obtain ⟨n, h⟩ := hp; simp [pl] at h
  | .exc _, hp, _, _ => by obtain ⟨n, h⟩ := hp; simp [pl] at h
  | .scr _, hp, _, _ => by obtain ⟨n, h⟩ := hp; simp [pl] at h
termination_by structural d => d
theorem RL.dp : ∀ (l : List D), (∃ n, plL l n = true) → ∀ xs : List V, RL G A H l xs → DpAll G.K H xs (toPL l)
  | [], _, _, h => by rw [show _ = [] from h]; exact .nil
  | d :: l, hp, xs, h => by
    obtain ⟨x, r, e, h1, h2⟩ := h
    rw [e]
    exact .cons (R.dp d (hp.elim fun n h => ⟨n, by simp only [plL, Bool.and_eq_true] at h; exact h.1⟩) x h1) (RL.dp l (hp.elim fun n h => ⟨n, by simp only [plL, Bool.and_eq_true] at h; exact h.2⟩) r h2)
termination_by structural l => l
end
theorem RB.dp {d : D} {v : V} (n : Nat) (h : RB G A H d v) (hp : pl d n = true) : Dp G.K H v (toP d) := R.dp d ⟨n, hp⟩ v h.r
end
def oEq : D → D → Option D := fun x y => if pl x 60 = true ∧ pl y 60 = true then some (.bl (PyData.eqv (toP x) (toP y))) else none
def oNe : D → D → Option D := fun x y => if pl x 60 = true ∧ pl y 60 = true then some (.bl (!PyData.eqv (toP x) (toP y))) else none
def rEqP (K : PySem.W.Frag) (neg : Bool) : R2 := fun x y H Q => ∃ d e, Dp K H x d ∧ Dp K H y e ∧ d.plain = true ∧ e.plain = true ∧ d.depth ≤ 60 ∧ Q (.bl (if neg then !PyData.eqv d e else PyData.eqv d e)) H
theorem opr_eq {X : Cx} (hu : X.A.units + 64 < cLine) : OpR X (compareOp .Eq) (rEqP X.K false) := by
  intro pins s σ H x y v u Q I rx ry h
  obtain ⟨d, e, hd, he, sd, se, dd, q⟩ := h
  obtain ⟨as, r1⟩ := Dp.reads I d x v hd rx
  obtain ⟨bs, r2⟩ := Dp.reads I e y u he ry
  exact SeqAt.eq_plain r1 r2 sd se (by have := Nat.min_le_left d.depth e.depth; omega) ⟨.bl _, H, I, rfl, q⟩
theorem opr_ne {X : Cx} (hu : X.A.units + 64 < cLine) : OpR X (compareOp .NotEq) (rEqP X.K true) := by
  intro pins s σ H x y v u Q I rx ry h
  obtain ⟨d, e, hd, he, sd, se, dd, q⟩ := h
  obtain ⟨as, r1⟩ := Dp.reads I d x v hd rx
  obtain ⟨bs, r2⟩ := Dp.reads I e y u he ry
  exact SeqAt.ne_plain r1 r2 sd se (by have := Nat.min_le_left d.depth e.depth; omega) ⟨.bl _, H, I, rfl, q⟩
theorem ops_eq {G : Gb} : OpS G foT (rEqP G.K false) oEq := by
  intro c O H x y z v1 v2 p1 p2 Q h1 h2 e q
  unfold oEq at e
  split at e
  · rename_i hp
    cases e
    have a := pl_plain x 60 hp.1
    have b := pl_plain y 60 hp.2
    exact ⟨_, _, h1.dp 60 hp.1, h2.dp 60 hp.2, a.1, b.1, a.2, q.bl⟩
  · cases e
theorem ops_ne {G : Gb} : OpS G foT (rEqP G.K true) oNe := by
  intro c O H x y z v1 v2 p1 p2 Q h1 h2 e q
  unfold oNe at e
  split at e
  · rename_i hp
    cases e
    have a := pl_plain x 60 hp.1
    have b := pl_plain y 60 hp.2
    exact ⟨_, _, h1.dp 60 hp.1, h2.dp 60 hp.2, a.1, b.1, a.2, q.bl⟩
  · cases e
def oCI (p : Int → Int → Bool) : D → D → Option D
  | .int i, .int j => some (.bl (p i j))
  | _, _ => none
theorem ops_CI {G : Gb} (p : Int → Int → Bool) : OpS G foT (rI0 fun i j => .bl (p i j)) (oCI p) := by
  intro c O H x y z v1 v2 p1 p2 Q h1 h2 e q
  cases x <;> first | (simp [oCI] at e; done) | skip
  cases y <;> first | (simp [oCI] at e; done) | skip
  cases e
  exact ⟨_, _, h1, h2, q.bl⟩
abbrev oLt := oCI fun i j => decide (i < j)
abbrev oGt := oCI fun i j => decide (j < i)
abbrev oGe := oCI fun i j => decide (j ≤ i)
def rIsA (neg : Bool) : R2 := fun x y H Q => (y = .non ∧ Q (.bl (xor neg (decide (x = .non)))) H) ∨ ∃ a b, x = .bl a ∧ y = .bl b ∧ Q (.bl (xor neg (decide (a = b)))) H
end Pi
namespace Pi
open PySem PySem.Spec PyProof.Rows L2
theorem opr_is {X : Cx} : OpR X (compareOp .Is) (rIsA false) := by
  refine opr_or (r1 := fun x y H Q => y = .non ∧ Q (.bl (xor false (decide (x = .non)))) H) (r2 := fun x y H Q => ∃ a b, x = .bl a ∧ y = .bl b ∧ Q (.bl (xor false (decide (a = b)))) H) ?_ ?_
  · intro pins s σ H x y v u Q I rx ry h
    exact op_isN pins s σ H x y v u Q I rx ry (by simpa using h)
  · intro pins s σ H x y v u Q I rx ry h
    exact op_is_bl pins s σ H x y v u Q I rx ry (by simpa using h)
def isNonB : D → Bool
  | .non => true
  | _ => false
theorem RB.nn {G : Gb} {A : Addr → Prop} {H : Hp} {d : D} {v : V} (h : RB G A H d v) : decide (v = .non) = isNonB d := by
  cases d with
  | non => rw [show v = .non from h]; rfl
  | bl b => rw [show v = .bl b from h]; rfl
  | int b => rw [show v = .int b from h]; rfl
  | str b => rw [show v = .str b from h]; rfl
  | tup l => obtain ⟨a, xs, e, _⟩ := h; rw [e]; rfl
  | lst l => obtain ⟨a, xs, e, _⟩ := h; rw [e]; rfl
  | dct ks l => obtain ⟨a, xs, e, _⟩ := h; rw [e]; rfl
  | obj k l => obtain ⟨a, dx, fs, e, _⟩ := h; rw [e]; rfl
  | exc k => exact h.elim
  | scr l => obtain ⟨a, e, _⟩ := h; rw [e]; rfl
def oIs (neg : Bool) : D → D → Option D
  | x, .non => some (.bl (xor neg (isNonB x)))
  | .bl a, .bl b => some (.bl (xor neg (decide (a = b))))
  | _, _ => none
theorem ops_is {G : Gb} (neg : Bool) : OpS G foT (rIsA neg) (oIs neg) := by
  intro c O H x y z v1 v2 p1 p2 Q h1 h2 e q
  cases y with
  | non =>
    have hn := h1.nn
    have e2 : oIs neg x .non = some (.bl (xor neg (isNonB x))) := by cases x <;> rfl
    rw [e2] at e
    cases e
    refine .inl ⟨h2, ?_⟩
    rw [hn]
    exact q.bl
  | bl b =>
    cases x <;> first | (simp [oIs] at e; done) | skip
    cases e
    exact .inr ⟨_, b, h1, h2, q.bl⟩
  | _ => cases x <;> simp [oIs] at e
def oIx : D → D → Option D
  | .lst l, .int i => atI l i
  | .tup l, .int i => atI l i
  | .scr l, .int i => (atI l i).map .int
  | .str s, .int i => if s.length ≤ sizeLine then (atI s.cps.toList i).map fun c => .str ⟨#[c]⟩ else none
  | _, _ => none
theorem RL.atI {G : Gb} {A : Addr → Prop} {H : Hp} {l : List D} {xs : List V} {i : Int} {d : D} (h : RL G A H l xs) (e : atI l i = some d) : ∃ v, L2.atI xs i = some v ∧ R G A H d v := by
  unfold L2.atI at e ⊢
  rw [h.len]
  cases q : ixN l.length i with
  | none => rw [q] at e; cases e
  | some j =>
    rw [q] at e
    obtain ⟨v, h1, h2⟩ := h.get (i := j) e
    exact ⟨v, h1, h2⟩
theorem ops_ix {G : Gb} : OpS G (fun p _ => .sh p) (rIx G.K) oIx := by
  intro c O H x y z v1 v2 p1 p2 Q h1 h2 e q
  cases y <;> first | (cases x <;> simp [oIx] at e; done) | skip
  rename_i i
  cases x <;> first | (simp [oIx] at e; done) | skip
  · rename_i s
    simp only [oIx] at e
    split at e
    · rename_i hl
      obtain ⟨c', e1, e2⟩ := Option.map_eq_some_iff.mp e
      subst e2
      exact .inr (.inr ⟨s, i, c', h1, h2, hl, e1, q.str⟩)
    · cases e
  · rename_i l
    obtain ⟨a, xs, rfl, e1, r1⟩ := h1
    obtain ⟨v, e2, r2⟩ := r1.atI e
    exact .inr (.inl ⟨a, xs, i, v, rfl, h2, e1, e2, q.old v r2⟩)
  · rename_i l
    obtain ⟨a, xs, rfl, e1, r1⟩ := h1
    obtain ⟨v, e2, r2⟩ := r1.atI e
    exact .inl ⟨a, xs, i, v, rfl, h2, SqL.of e1, e2, q.old v r2⟩
  · rename_i l
    obtain ⟨a, rfl, e1⟩ := h1
    obtain ⟨n, e2, e3⟩ := Option.map_eq_some_iff.mp e
    subst e3
    refine .inl ⟨a, _, i, .int n, rfl, h2, e1.sq, ?_, q.int⟩
    unfold L2.atI at e2 ⊢
    rw [List.length_map]
    cases q : ixN l.length i with
    | none => rw [q] at e2; cases e2
    | some j =>
      rw [q] at e2
      have e2' : l[j]? = some n := e2
      show (l.map V.int)[j]? = some (V.int n)
      rw [List.getElem?_map, e2']
      rfl
section
variable {G : Gb} {W : WX} {N : List Str} {sc : Scope} {k : Nat} {X : Cx} {F F1 F2 F3 : List SF} {f f1 f2 : VF}
theorem de_ix (g : Gv G N sc X) {a b : Expr} {pos : Pos} {ea eb : EvE} (ha : PE X a (TEv G W F F1 f1 ea)) (hb : PE X b (TEv G W F1 F2 f2 eb)) (hs : PlainIx b := by exact fun _ _ => rfl) :
    PE X (.Subscript a b pos) (TEv G W F F2 (.sh f1.dp) (eB2 oIx ea eb)) := by
  refine pe_imp (pe_ix ix_seq ha hb hs) ?_
  rw [g.K]
  exact OpS.core ops_ix (fun _ _ _ z => z) fun _ _ _ z => z
def nbL : List VF → Bool
  | [] => true
  | f :: fs => f.nb && nbL fs
def dpL : List VF → Bool
  | [] => true
  | f :: fs => f.dp && dpL fs
theorem RA.r {c : Fr} {O : Addr → Prop} {H : Hp} {d : D} {v : V} (h : RA G c O H f d v) (n : f.nb = true) : R G (Av c O f.dp) H d v := by
  cases f with
  | sh dp => exact h
  | uq dp => exact h
  | bo dp => cases n
theorem RVL.rl {c : Fr} {O : Addr → Prop} {H : Hp} : ∀ {fs : List VF} {ds : List D} {vs : List V}, RVL G c O H fs ds vs → nbL fs = true → RL G (Av c O (dpL fs)) H ds vs
  | [], _, _, ⟨h1, h2⟩, _ => by rw [h1, h2]; rfl
  | f :: fs, _, _, ⟨d, r, v, t, e1, e2, h1, h2⟩, n => by
    simp only [nbL, Bool.and_eq_true] at n
    rw [e1, e2]
    exact RL.cons ((h1.r n.1).an fun a z => z.dpand _) ((RVL.rl h2 n.2).an fun a z => z.dpand' _)
theorem RVL.len {c : Fr} {O : Addr → Prop} {H : Hp} : ∀ {fs : List VF} {ds : List D} {vs : List V}, RVL G c O H fs ds vs → ds.length = fs.length ∧ vs.length = fs.length
  | [], _, _, ⟨h1, h2⟩ => by rw [h1, h2]; exact ⟨rfl, rfl⟩
  | f :: fs, _, _, ⟨d, r, v, t, e1, e2, h1, h2⟩ => by
    have := RVL.len h2
    rw [e1, e2]
    simp [this.1, this.2]
def eTup (a : En → Rs (List D)) : EvE := fun en => bnd (a en) fun ds => .ok (.tup ds)
def eLst (a : En → Rs (List D)) : EvE := fun en => bnd (a en) fun ds => .ok (.lst ds)
theorem de_tup {es : List Expr} {n : Nat} {pos : Pos} {fs : List VF} {ea : En → Rs (List D)} (ha : PA X es (TAv G W F F1 fs ea)) (hn : nbL fs = true := by rfl) (hl : fs.length ≤ sizeLine := by decide) : PE X (.Tuple es n pos) (TEv G W F F1 (.uq (dpL fs)) (eTup ea)) := by
  refine pe_imp (pe_tup ha) ?_
  rintro σ H Q ⟨c, en, own, ok, m⟩
  refine ⟨c, en, own, ok, m.bnd.imp fun ds _ mx vs H1 own1 ok1 s1 b1 r1 => ?_⟩
  refine ⟨by rw [r1.len.2]; exact hl, fun p hp => (ok1.kp (f := .uq (dpL fs)) (z := .tup ds) fun v H2 own2 ok2 s2 b2 r2 => mx v H2 own2 ok2 (s1.trans s2) (sub_trans b1 s1 b2) r2).new p _ hp ⟨vs, rfl, r1.rl hn⟩⟩
theorem de_lst {es : List Expr} {pos : Pos} {fs : List VF} {ea : En → Rs (List D)} (ha : PA X es (TAv G W F F1 fs ea)) (hn : nbL fs = true := by rfl) (hl : fs.length ≤ sizeLine := by decide) : PE X (.List es pos) (TEv G W F F1 (.uq (dpL fs)) (eLst ea)) := by
  refine pe_imp (pe_lst ha) ?_
  rintro σ H Q ⟨c, en, own, ok, m⟩
  refine ⟨c, en, own, ok, m.bnd.imp fun ds _ mx vs H1 own1 ok1 s1 b1 r1 => ?_⟩
  refine ⟨by rw [r1.len.2]; exact hl, fun p hp => (ok1.kp (f := .uq (dpL fs)) (z := .lst ds) fun v H2 own2 ok2 s2 b2 r2 => mx v H2 own2 ok2 (s1.trans s2) (sub_trans b1 s1 b2) r2).new p _ hp ⟨vs, rfl, r1.rl hn⟩⟩
def eFl (ev : EvE) : EvE := fun en => bnd (ev en) fun d => if flat d = true then .ok d else .error .stuck
theorem de_fl {e : Expr} {ev : EvE} (h : PE X e (TEv G W F F1 f ev)) : PE X e (TEv G W F F1 (.uq true) (eFl ev)) := by
  refine pe_imp h ?_
  rintro σ H Q ⟨c, en, own, ok, m⟩
  refine ⟨c, en, own, ok, m.bnd.imp fun d _ md v H1 own1 ok1 s1 b1 r1 => ?_⟩
  split at md
  · rename_i hf
    exact md v H1 own1 ok1 s1 b1 ⟨[], flat_uq hf r1.b.r, fun a h => by cases h⟩
  · exact md.elim
def flatIn : D → Bool
  | .lst l => flat.flatL l
  | .dct _ l => flat.flatL l
  | d => flat d
def eFi (ev : EvE) : EvE := fun en => bnd (ev en) fun d => if flatIn d = true then .ok d else .error .stuck
theorem RO.fi {A A' : Addr → Prop} {H : Hp} {d : D} {v : V} {os : List Addr} (h : RO G A H d v os) (hf : flatIn d = true) : RO G A' H d v os := by
  cases d with
  | lst l => obtain ⟨a, xs, e, eo, h1, h2⟩ := h; exact ⟨a, xs, e, eo, h1, RL.flat l hf h2⟩
  | dct ks l => obtain ⟨a, kvs, e, eo, h1, h2, h3⟩ := h; exact ⟨a, kvs, e, eo, h1, h2, RL.flat l hf h3⟩
  | tup l => exact ⟨h.1, R.flat (.tup l) hf h.2⟩
  | non => exact h
  | bl _ => exact h
  | int _ => exact h
  | str _ => exact h
  | obj _ _ => cases hf
  | exc _ => cases hf
  | scr _ => cases hf
theorem de_fi {e : Expr} {ev : EvE} {dp : Bool} (h : PE X e (TEv G W F F1 (.uq dp) ev)) : PE X e (TEv G W F F1 (.uq true) (eFi ev)) := by
  refine pe_imp h ?_
  rintro σ H Q ⟨c, en, own, ok, m⟩
  refine ⟨c, en, own, ok, m.bnd.imp fun d _ md v H1 own1 ok1 s1 b1 r1 => ?_⟩
  split at md
  · rename_i hf
    obtain ⟨os, h1, h2⟩ := r1
    exact md v H1 own1 ok1 s1 b1 ⟨os, h1.fi hf, h2⟩
  · exact md.elim
def CallS (G : Gb) (fo : List VF → VF) (r : List V → Hp → VK → Prop) (op : List D → Option D) : Prop := ∀ (c : Fr) (O : Addr → Prop) (H : Hp) (fs : List VF) (ds : List D) (vs : List V) (z : D) (Q : VK),
  RVL G c O H fs ds vs → op ds = some z → Kp G c O H (fo fs) z Q → r vs H Q
def eBi (op : List D → Option D) (a : En → Rs (List D)) : EvE := fun en => bnd (a en) fun ds => ofO (op ds)
theorem CallS.core {fo : List VF → VF} {r : List V → Hp → VK → Prop} {op : List D → Option D} {fs : List VF} {ta : TA} {ea : En → Rs (List D)} (h : CallS G fo r op) (ha : ∀ σ H Q, TAv G W F F1 fs ea σ H Q → ta σ H Q) :
    ∀ σ H Q, TEv G W F F1 (fo fs) (eBi op ea) σ H Q → tCB r ta σ H Q := by
  rintro σ H Q ⟨c, en, own, ok, m⟩
  refine ha _ _ _ ⟨c, en, own, ok, m.bnd.imp fun ds _ mx vs H1 own1 ok1 s1 b1 r1 => ?_⟩
  obtain ⟨z, ez, q⟩ := mx.ofO
  exact h c _ H1 fs ds vs z Q r1 ez (ok1.kp fun v H2 own2 ok2 s2 b2 r2 => q v H2 own2 ok2 (s1.trans s2) (sub_trans b1 s1 b2) r2)
theorem de_callB (g : Gv G N sc X) {x : Str} {id : String} {p pos : Pos} {e : Expr} {es : List Expr} {fs : List VF} {fo : List VF → VF} {r : List V → Hp → VK → Prop} {op : List D → Option D} {ea : En → Rs (List D)} (hc : CallR X (.builtin id) r) (h : CallS G fo r op) (hm : G.mg x = none)
    (hv : bootBuiltins x = some (.builtin id)) (ha : PA X (e :: es) (TAv G W F F1 fs ea)) (hx : glbB sc x = true := by rfl) (hn : nameB x = true := by rfl)
    (he : starEach (e :: es) X.env = (false, eval e X.env) :: starEach es X.env := by rfl) (hpl : (backTo pos (starEach es X.env)).any (·.1) = false := by rfl) : PE X (.Call (.Name x p) (e :: es) [] pos) (TEv G W F F1 (fo fs) (eBi op ea)) :=
  pe_imp (pe_callB hc (glbB_gl hx g.sc) (by rw [g.mg]; exact hm) hv ha (nameB_d hn).2.2 (nameB_d hn).1 he hpl) (h.core fun _ _ _ z => z)
theorem de_callT (g : Gv G N sc X) {x : Str} {T : String} {p pos : Pos} {e : Expr} {es : List Expr} {fs : List VF} {fo : List VF → VF} {r : List V → Hp → VK → Prop} {op : List D → Option D} {ea : En → Rs (List D)} (hc : CallR X (.type T) r) (h : CallS G fo r op) (hm : G.mg x = none)
    (hv : bootBuiltins x = some (.type T)) (ha : PA X (e :: es) (TAv G W F F1 fs ea)) (hx : glbB sc x = true := by rfl) (hn : nameB x = true := by rfl)
    (he : starEach (e :: es) X.env = (false, eval e X.env) :: starEach es X.env := by rfl) (hpl : (backTo pos (starEach es X.env)).any (·.1) = false := by rfl) : PE X (.Call (.Name x p) (e :: es) [] pos) (TEv G W F F1 (fo fs) (eBi op ea)) :=
  pe_imp (pe_callTy hc (glbB_gl hx g.sc) (by rw [g.mg]; exact hm) hv ha (nameB_d hn).2.2 (nameB_d hn).1 he hpl) (h.core fun _ _ _ z => z)
abbrev foL : List VF → VF := fun _ => .uq true
theorem RVL.one {c : Fr} {O : Addr → Prop} {H : Hp} {fs : List VF} {d : D} {vs : List V} (h : RVL G c O H fs [d] vs) : ∃ f v, fs = [f] ∧ vs = [v] ∧ RB G (Av c O f.dp) H d v := by
  cases fs with
  | nil => cases h.1
  | cons f fs =>
    obtain ⟨d', r, v, t, e1, e2, h1, h2⟩ := h
    cases e1
    cases fs with
    | nil => rw [h2.2] at e2; exact ⟨f, v, rfl, e2, h1.b⟩
    | cons _ _ => obtain ⟨_, _, _, _, e, _⟩ := h2; cases e
theorem RVL.two {c : Fr} {O : Addr → Prop} {H : Hp} {fs : List VF} {d d' : D} {vs : List V} (h : RVL G c O H fs [d, d'] vs) : ∃ f f' v v', fs = [f, f'] ∧ vs = [v, v'] ∧ RB G (Av c O f.dp) H d v ∧ RB G (Av c O f'.dp) H d' v' := by
  cases fs with
  | nil => cases h.1
  | cons f fs =>
    obtain ⟨d', r, v, t, e1, e2, h1, h2⟩ := h
    cases e1
    obtain ⟨f', v', rfl, rfl, h3⟩ := h2.one
    exact ⟨f, f', v, v', rfl, e2, h1.b, h3⟩
def oLen : List D → Option D
  | [.lst l] => some (.int l.length)
  | [.tup l] => some (.int l.length)
  | [.scr l] => some (.int l.length)
  | [.dct ks _] => some (.int ks.length)
  | [.str s] => if s.length ≤ sizeLine then some (.int s.length) else none
  | _ => none
def rLen (K : PySem.W.Frag) : List V → Hp → VK → Prop := fun xs H Q => (∃ p ys, xs = [.ref p] ∧ (SqL K H p ys ∨ SqT K H p ys) ∧ Q (.int ys.length) H) ∨ (∃ z, xs = [.str z] ∧ z.length ≤ sizeLine ∧ Q (.int z.length) H) ∨
  ∃ a kvs, xs = [V.ref a] ∧ Rd H a (.dK kvs) ∧ Q (.int kvs.length) H
theorem call_or {X : Cx} {v : Value} {r1 r2 : List V → Hp → VK → Prop} (h1 : CallR X v r1) (h2 : CallR X v r2) : CallR X v (fun xs H Q => r1 xs H Q ∨ r2 xs H Q) := by
  intro pins s σ H xs us Q I r h
  rcases h with h | h
  · exact h1 pins s σ H xs us Q I r h
  · exact h2 pins s σ H xs us Q I r h
theorem callr_lenD {X : Cx} : CallR X (.builtin "len") (fun xs H Q => ∃ a kvs, xs = [V.ref a] ∧ Rd H a (.dK kvs) ∧ Q (.int kvs.length) H) := by
  intro pins s σ H xs us Q I r h
  obtain ⟨a, kvs, rfl, ha, q⟩ := h
  obtain ⟨u, rfl, ru⟩ := vals1 r
  cases ru
  exact d_len I ha fun t s' I' => ⟨.int kvs.length, H, I', ⟨t, rfl⟩, q⟩
theorem callr_len {X : Cx} : CallR X (.builtin "len") (rLen X.K) := call_or call_len_seq (call_or call_len_str callr_lenD)
theorem calls_len : CallS G foL (rLen G.K) oLen := by
  intro c O H fs ds vs z Q h e q
  match ds, e with
  | [.lst l], e =>
    cases e
    obtain ⟨f, v, rfl, rfl, a, xs, rfl, e1, r1⟩ := h.one
    exact .inl ⟨a, xs, rfl, .inl (SqL.of e1), by rw [r1.len]; exact q.int⟩
  | [.tup l], e =>
    cases e
    obtain ⟨f, v, rfl, rfl, a, xs, rfl, e1, r1⟩ := h.one
    exact .inl ⟨a, xs, rfl, .inr e1, by rw [r1.len]; exact q.int⟩
  | [.scr l], e =>
    cases e
    obtain ⟨f, v, rfl, rfl, a, rfl, e1⟩ := h.one
    exact .inl ⟨a, _, rfl, .inl e1.sq, by rw [List.length_map]; exact q.int⟩
  | [.dct ks l], e =>
    cases e
    obtain ⟨f, v, rfl, rfl, a, kvs, rfl, e1, rfl, r1⟩ := h.one
    exact .inr (.inr ⟨a, kvs, rfl, e1, by rw [List.length_map] at q; exact q.int⟩)
  | [.str s], e =>
    simp only [oLen] at e
    split at e
    · rename_i hl
      cases e
      obtain ⟨f, v, rfl, rfl, r1⟩ := h.one
      exact .inr (.inl ⟨s, congrArg (fun x => [x]) r1, hl, q.int⟩)
    · cases e
theorem de_len (g : Gv G N sc X) {p pos : Pos} {e : Expr} {fs : List VF} {ea : En → Rs (List D)} (hm : G.mg "len" = none) (ha : PA X [e] (TAv G W F F1 fs ea)) (hx : glbB sc "len" = true := by rfl)
    (he : starEach [e] X.env = [(false, eval e X.env)] := by rfl) : PE X (.Call (.Name "len" p) [e] [] pos) (TEv G W F F1 (.uq true) (eBi oLen ea)) :=
  de_callB g (fo := foL) (r := rLen G.K) (by rw [← g.K]; exact callr_len) calls_len hm PySem.boot_len ha hx (by decide) he rfl
def oAbs : List D → Option D
  | [.int i] => some (.int (if i < 0 then -i else i))
  | _ => none
theorem calls_abs : CallS G foL (fun xs H Q => ∃ i, xs = [.int i] ∧ Q (.int (if i < 0 then -i else i)) H) oAbs := by
  intro c O H fs ds vs z Q h e q
  match ds, e with
  | [.int i], e =>
    cases e
    obtain ⟨f, v, rfl, rfl, r1⟩ := h.one
    exact ⟨i, congrArg (fun x => [x]) r1, q.int⟩
theorem de_abs (g : Gv G N sc X) {p pos : Pos} {e : Expr} {fs : List VF} {ea : En → Rs (List D)} (hm : G.mg "abs" = none) (ha : PA X [e] (TAv G W F F1 fs ea)) (hx : glbB sc "abs" = true := by rfl)
    (he : starEach [e] X.env = [(false, eval e X.env)] := by rfl) : PE X (.Call (.Name "abs" p) [e] [] pos) (TEv G W F F1 (.uq true) (eBi oAbs ea)) :=
  de_callB g (fo := foL) call_abs calls_abs hm (by decide +kernel) ha hx (by decide) he rfl
def oMin : List D → Option D
  | [.int i, .int j] => some (.int (if j < i then j else i))
  | _ => none
theorem calls_min : CallS G foL (fun xs H Q => ∃ i j, xs = [.int i, .int j] ∧ Q (.int (if j < i then j else i)) H) oMin := by
  intro c O H fs ds vs z Q h e q
  match ds, e with
  | [.int i, .int j], e =>
    cases e
    obtain ⟨f, f', v, v', rfl, rfl, r1, r2⟩ := h.two
    exact ⟨i, j, by rw [show v = .int i from r1, show v' = .int j from r2], q.int⟩
theorem de_min (g : Gd G N sc k W X) {p pos : Pos} {e e' : Expr} {fs : List VF} {ea : En → Rs (List D)} (hm : G.mg "min" = none) (ha : PA X [e, e'] (TAv G W F F1 fs ea)) (hx : glbB sc "min" = true := by rfl)
    (he : starEach [e, e'] X.env = [(false, eval e X.env), (false, eval e' X.env)] := by rfl) (he2 : starEach [e'] X.env = [(false, eval e' X.env)] := by rfl) : PE X (.Call (.Name "min" p) [e, e'] [] pos) (TEv G W F F1 (.uq true) (eBi oMin ea)) :=
  de_callB g.toGv (fo := foL) (call_min2 g.calm) calls_min hm (by decide +kernel) ha hx (by decide) (by rw [he, he2]) (by rw [he2]; rfl)
def oInt : List D → Option D
  | [.int i] => some (.int i)
  | [.bl b] => some (.int (if b then 1 else 0))
  | _ => none
theorem calls_int : CallS G foL (fun xs H Q => (∃ i, xs = [.int i] ∧ Q (.int i) H) ∨ ∃ k, xs = [.bl k] ∧ Q (.int (if k then 1 else 0)) H) oInt := by
  intro c O H fs ds vs z Q h e q
  match ds, e with
  | [.int i], e =>
    cases e
    obtain ⟨f, v, rfl, rfl, r1⟩ := h.one
    exact .inl ⟨i, congrArg (fun x => [x]) r1, q.int⟩
  | [.bl i], e =>
    cases e
    obtain ⟨f, v, rfl, rfl, r1⟩ := h.one
    exact .inr ⟨i, congrArg (fun x => [x]) r1, q.int⟩
theorem de_int1 (g : Gv G N sc X) {p pos : Pos} {e : Expr} {fs : List VF} {ea : En → Rs (List D)} (hm : G.mg "int" = none) (ha : PA X [e] (TAv G W F F1 fs ea)) (hx : glbB sc "int" = true := by rfl)
    (he : starEach [e] X.env = [(false, eval e X.env)] := by rfl) : PE X (.Call (.Name "int" p) [e] [] pos) (TEv G W F F1 (.uq true) (eBi oInt ea)) :=
  de_callT g (fo := foL) call_int1 calls_int hm (by decide +kernel) ha hx (by decide) he rfl
def oNeg : D → Option D
  | .int i => some (.int (-i))
  | _ => none
theorem de_neg {a : Expr} {pos : Pos} {ea : EvE} (ha : PE X a (TEv G W F F1 f1 ea)) : PE X (.UnaryOp .USub a pos) (TEv G W F F1 (.uq true) (eU1 oNeg ea)) := by
  refine pe_imp (pe_un un_neg ha) ?_
  rintro σ H Q ⟨c, en, own, ok, m⟩
  refine ⟨c, en, own, ok, m.bnd.imp fun x _ mx v1 H1 own1 ok1 s1 b1 r1 => ?_⟩
  obtain ⟨z, ez, q⟩ := mx.ofO
  cases x <;> first | cases ez | skip
  exact ⟨_, r1.int, q _ H1 own1 ok1 s1 b1 (RV.mkI _)⟩
inductive Ty where
  | non | bool | int | str | tuple | list | dict
  deriving DecidableEq
def Ty.nm : Ty → String
  | .non => "NoneType" | .bool => "bool" | .int => "int" | .str => "str" | .tuple => "tuple" | .list => "list" | .dict => "dict"
def isiB (t u : Ty) : Bool := decide (t = u) || (decide (t = .bool) && decide (u = .int))
theorem kit_all : ∀ t u : Ty, kitB t.nm u.nm = some (isiB t u) := by
  intro t u
  cases t <;> cases u <;> decide +kernel
def tyD : D → Option Ty
  | .non => some .non | .bl _ => some .bool | .int _ => some .int | .str _ => some .str | .tup _ => some .tuple | .lst _ => some .list | .dct _ _ => some .dict | .scr _ => some .list
  | _ => none
theorem RB.ty {A : Addr → Prop} {H : Hp} {d : D} {v : V} {t : Ty} (h : RB G A H d v) (e : tyD d = some t) : TyX G.K H v (.type t.nm) := by
  cases d <;> cases e
  · rw [show v = .non from h]; exact .base .non
  · rw [show v = .bl _ from h]; exact .base (.bl _)
  · rw [show v = .int _ from h]; exact .base (.int _)
  · rw [show v = .str _ from h]; exact .base (.str _)
  · obtain ⟨a, xs, rfl, h1, _⟩ := h
    rcases h1 with (h1 | ⟨o, h1⟩) | ⟨o, its, n, h1, h2, _⟩
    · exact .base (.tup h1)
    · exact .fTuple h1
    · exact .kTuple h1 h2
  · obtain ⟨a, xs, rfl, h1, _⟩ := h
    exact .base (.lst h1)
  · obtain ⟨a, xs, rfl, h1, _⟩ := h
    rcases h1 with h1 | ⟨o, h1⟩
    · exact .base (.dK h1)
    · exact .fDict h1
  · obtain ⟨a, rfl, h1⟩ := h
    rcases h1 with ⟨o, h1⟩ | ⟨o, its, n, h1, h2, _⟩
    · exact .base (.frz h1)
    · exact .kList h1 h2
def eIsi (u : Ty) (a : EvE) : EvE := fun en => bnd (a en) fun d => bnd (ofO (tyD d)) fun t => .ok (.bl (isiB t u))
theorem de_isi (g : Gv G N sc X) (u : Ty) {p pos tp : Pos} {a : Expr} {ea : EvE} {T : Str} (hm : G.mg "isinstance" = none) (hm2 : G.mg T = none) (ha : PE X a (TEv G W F F1 f1 ea)) (hv : bootBuiltins T = some (.type u.nm)) (hx : glbB sc "isinstance" = true := by rfl) (hx2 : glbB sc T = true := by rfl) (hn : nameB T = true := by rfl)
    (he : starEach [a, .Name T tp] X.env = [(false, eval a X.env), (false, eval (.Name T tp) X.env)] := by rfl) : PE X (.Call (.Name "isinstance" p) [a, .Name T tp] [] pos) (TEv G W F F1 (.uq true) (eIsi u ea)) := by
  have hT : PE X (.Name T tp) (tC (.ty u.nm)) := pe_bltn (glbB_gl hx2 g.sc) (by rw [g.mg]; exact hm2) hv rfl (nameB_d hn).2.2 (nameB_d hn).1
  refine pe_imp (pe_callB call_isi (glbB_gl hx g.sc) (by rw [g.mg]; exact hm) (by decide +kernel) (pa_cons ha (pa_cons hT pa_nil) (by rw [he]; rfl)) (by decide) (by decide) (by rw [he]; rfl) rfl) ?_
  rintro σ H Q ⟨c, en, own, ok, m⟩
  refine ⟨c, en, own, ok, m.bnd.imp fun x _ mx v1 H1 own1 ok1 s1 b1 r1 => ?_⟩
  obtain ⟨t, et, q⟩ := mx.bnd.ofO
  exact ⟨v1, .ty u.nm, .type t.nm, .type u.nm, isiB t u, rfl, .ty _, by rw [g.K]; exact r1.b.ty et, kit_ty (kit_all t u), q _ H1 own1 ok1 s1 b1 (RV.mkB _)⟩
end
end Pi
namespace Pi
open PySem PySem.Spec PyProof.Rows L2
def RRet (G : Gb) (md : Bool) (A0 : Addr → Prop) (H H' : Hp) (d : D) (v : V) : Prop :=
  match md with
  | true => ∃ os, RO G (fun a => H a = none ∧ a ∉ os) H' d v os ∧ ∀ a, a ∈ os → H a = none
  | false => R G (fun a => H a = none ∨ A0 a) H' d v
def spF (G : Gb) (md : Bool) (n : Nat) (fn : List D → Rs D) : Sp := fun vs H Q E => vs.length = n ∧ ∃ (ds : List D) (A0 : Addr → Prop), RL G A0 H ds vs ∧
  match fn ds with
  | .ok d => ∀ v H', Same H H' → RRet G md A0 H H' d v → Q v H'
  | .error (.raise e) => ∀ H', Same H H' → E (.ref (G.xa e)) none H'
  | .error .stuck => False
structure Cal (G : Gb) (j : Nat) (x : Str) (md : Bool) (n : Nat) (fn : List D → Rs D) : Prop where
  ex : ∃ (f : Addr) (fd : FuncData) (ps : List Str), FnOk G.P G.w G.K G.mg G.base (L2.CX G.P G.w) j f fd ps (spF G md n fn) ∧ G.mg x = some (.ref f) ∧ PySem.W.keepIn G.K (.ref f) = true ∧ Binds G.K fd ps []
section
variable {G : Gb} {W : WX} {N : List Str} {sc : Scope} {k : Nat} {X : Cx} {F F1 F2 F3 : List SF} {f f1 f2 : VF} {c : Fr} {en : En} {own : Own} {σ : L2.St} {H H' : Hp}
def Own.resL (w : Own) (os : List Addr) : Own := ⟨w.sl, fun a => w.tm a ∨ a ∈ os⟩
theorem sub_resL {w : Own} {os : List Addr} (h : ∀ a, a ∈ os → H a = none) : Sub (ow w) (ow (w.resL os)) H := fun a z => by
  rcases z with z | z | z
  · exact .inl (.inl z)
  · exact .inl (.inr z)
  · exact .inr (h a z)
theorem Ok.resL (ok : Ok G c F en own σ H) (s : Same H H') {os : List Addr} (h : ∀ a, a ∈ os → H a = none) (h' : ∀ a, a ∈ os → H' a ≠ none) : Ok G c F en (own.resL os) σ H' where
  lF := ok.lF
  lE := ok.lE
  same := fun b o n e => s _ _ (ok.same b o n e)
  tr := fun a h => same_ne s (ok.tr a h)
  dj := ok.dj
  dt := fun i a q z => z.elim (ok.dt i a q) fun e => (ok.nw i _ q).1 (h a e)
  nt := fun a q => q.elim (fun q => ⟨same_ne s (ok.nt a q).1, (ok.nt a q).2⟩) fun e => ⟨h' a e, ok.free (h a e)⟩
  nw := fun i a q => ⟨same_ne s (ok.nw i a q).1, (ok.nw i a q).2⟩
  sl := fun i => (ok.sl i).grow s rfl (sub_resL h)
  lk := fun a o q => ⟨s _ _ (ok.lk a o q).1, (ok.lk a o q).2.imp id fun n z => by
    rcases z with z | z | z
    · exact n (.inl z)
    · exact n (.inr z)
    · have := (ok.lk a o q).1; rw [h a z] at this; cases this⟩
theorem RO.at {A : Addr → Prop} {d : D} {v : V} {os : List Addr} (h : RO G A H d v os) : ∀ a, a ∈ os → H a ≠ none := by
  intro a ha
  cases d with
  | lst l => obtain ⟨b, xs, e, eo, h1, _⟩ := h; rw [eo] at ha; exact (by simpa using ha : a = b) ▸ (by rw [h1]; simp)
  | dct ks l => obtain ⟨b, xs, e, eo, h1, _⟩ := h; rw [eo] at ha; exact (by simpa using ha : a = b) ▸ (by rw [h1]; simp)
  | obj ks l => obtain ⟨b, dx, xs, e, eo, h1, _⟩ := h; rw [eo] at ha; exact (by simpa using ha : a = b) ▸ (by rw [h1]; simp)
  | exc _ => exact h.elim
  | _ => rw [h.1] at ha; cases ha
def VF.ret : Bool → VF
  | true => .uq true
  | false => .sh false
theorem Ok.back {md : Bool} {d : D} {v : V} (ok : Ok G c F en own σ H) (s : Same H H') (r : RRet G md (Av c (ow own) false) H H' d v) : ∃ own', Ok G c F en own' σ H' ∧ Sub (ow own) (ow own') H ∧ RV G c own' H' (VF.ret md) d v := by
  cases md with
  | true =>
    obtain ⟨os, h1, h2⟩ := r
    refine ⟨own.resL os, ok.resL s h2 h1.at, sub_resL h2, os, RO.up h1 (Up.same (Same.refl H') fun a ⟨z1, z2⟩ => ⟨fun y => ?_, fun _ => ok.free z1, .inl (ok.free z1)⟩) fun _ _ _ z => z, fun a ha => .inr ha⟩
    rcases y with y | y | y
    · exact ok.trk (.inl y) z1
    · exact ok.trk (.inr y) z1
    · exact z2 y
  | false =>
    refine ⟨own, ok.grow s, sub_refl, R.up (Up.same (Same.refl H') fun a z => ?_) _ r⟩
    rcases z with z | z
    · exact ⟨fun y => ok.trk y z, ⟨fun _ => ok.free z, .inl (ok.free z)⟩⟩
    · exact z
theorem Gd.fnOk (g : Gd G N sc k W X) {j : Nat} {f : Addr} {fd : FuncData} {ps : List Str} {sp : Sp} (h : FnOk G.P G.w G.K G.mg G.base (L2.CX G.P G.w) j f fd ps sp) : FnOk X.prog X.w X.K X.mg X.base (L2.CX X.prog X.w) j f fd ps sp := by
  rw [g.prog, g.w, g.K, g.mg, g.base]
  exact h
theorem RVL.any {O : Addr → Prop} : ∀ {fs : List VF} {ds : List D} {vs : List V}, RVL G c O H fs ds vs → RL G (fun _ => True) H ds vs
  | [], _, _, ⟨h1, h2⟩ => by rw [h1, h2]; rfl
  | f :: fs, _, _, ⟨d, r, v, t, e1, e2, h1, h2⟩ => by rw [e1, e2]; exact RL.cons h1.b.r (RVL.any h2)
def eCall (fn : List D → Rs D) (a : En → Rs (List D)) : EvE := fun en => bnd (a en) fn
def eCallD (fn : List D → Rs D) (dd : D) (a : En → Rs (List D)) : EvE := fun en => bnd (a en) fun ds => fn (ds ++ [dd])
def okArgs (md : Bool) (fs : List VF) : Bool := md || nbL fs
theorem call_core {md : Bool} {n : Nat} {fn : List D → Rs D} {fs : List VF} {ea : En → Rs (List D)} (hn : fs.length = n) (ha : okArgs md fs = true) {dvs : List V} {dds : List D} (hd : ∀ A H, RL G A H dds dvs) :
    ∀ σ H Q, TEv G W F F1 (VF.ret md) (fun en => bnd (ea en) fun ds => fn (ds ++ dds)) σ H Q → tCallSD (spF G md (n + dvs.length) fn) dvs (WE W) (TAv G W F F1 fs ea) σ H Q := by
  rintro σ H Q ⟨c, en, own, ok, m⟩
  refine ⟨c, en, own, ok, m.bnd.imp fun ds _ mx vs H1 own1 ok1 s1 b1 r1 => ?_⟩
  refine ⟨by rw [List.length_append, r1.len.2, hn], ds ++ dds, if md = true then fun _ => True else Av c (ow own1) false, RL.app ?_ (hd _ _), ?_⟩
  · cases md with
    | true => exact r1.any
    | false => exact (r1.rl (by simpa [okArgs] using ha)).an fun a z => z.undp
  · cases e : fn (ds ++ dds) with
    | ok d =>
      rw [e] at mx
      intro v H2 s2 r2
      have r2' : RRet G md (Av c (ow own1) false) H1 H2 d v := by cases md <;> exact r2
      obtain ⟨own2, ok2, b2, rv⟩ := ok1.back s2 r2'
      exact mx v H2 own2 ok2 (s1.trans s2) (sub_trans b1 s1 b2) rv
    | error x =>
      rw [e] at mx
      cases x with
      | stuck => exact mx.elim
      | raise x => exact fun H2 s2 => mx H2 fun b o nb e => s2 _ _ (ok1.same b o nb e)
theorem de_call (g : Gd G N sc k W X) {j : Nat} {x : Str} {md : Bool} {n : Nat} {fn : List D → Rs D} (C : Cal G j x md n fn) {p pos : Pos} {e : Expr} {es : List Expr} {fs : List VF} {ea : En → Rs (List D)} (ha : PA X (e :: es) (TAv G W F F1 fs ea))
    (hj : j ≤ k := by decide) (hn : fs.length = n := by rfl) (ho : okArgs md fs = true := by rfl) (hx : glbB sc x = true := by rfl) (hnm : nameB x = true := by rfl)
    (he : starEach (e :: es) X.env = (false, eval e X.env) :: starEach es X.env := by rfl) (hpl : (backTo pos (starEach es X.env)).any (·.1) = false := by rfl) : PE X (.Call (.Name x p) (e :: es) [] pos) (TEv G W F F1 (VF.ret md) (eCall fn ea)) := by
  obtain ⟨f, fd, ps, hF, hm, hk, hb⟩ := C.ex
  refine pe_imp (pe_callSD (dvs := []) (ds := []) (g.fnOk hF) (g.room.mono hj) (glbB_gl hx g.sc) (by rw [g.mg]; exact hm) (by rw [g.K]; exact hk) (by rw [g.K]; exact hb) .nil (fun σ => passAt g.tk σ) ha (nameB_d hnm).1 he hpl) ?_
  have q := call_core (G := G) (W := W) (F := F) (F1 := F1) (md := md) (n := n) (fn := fn) (ea := ea) hn ho (dvs := []) (dds := []) fun _ _ => RL.nil
  simp only [List.append_nil, List.length_nil, Nat.add_zero] at q
  exact q
def tkL : List SF → Nat → List SF
  | [], _ => []
  | _ :: F, 0 => .n :: F
  | f :: F, i + 1 => f :: tkL F i
theorem tkL_wk : ∀ (F : List SF) (i : Nat), wkL F (tkL F i) = true
  | [], _ => rfl
  | f :: F, 0 => by
    have h : ∀ F : List SF, wkL F F = true := fun F => by
      induction F with
      | nil => rfl
      | cons f F ih => cases f <;> simp [wkL, SF.wk, ih]
    cases f <;> simp [tkL, wkL, SF.wk, h]
  | f :: F, i + 1 => by
    have := tkL_wk F i
    cases f <;> simp [tkL, wkL, SF.wk, this]
theorem tkL_at : ∀ {F : List SF} {i : Nat} {f : SF}, F[i]? = some f → (tkL F i)[i]? = some .n
  | [], _, _, h => by simp at h
  | f :: F, 0, _, h => rfl
  | f :: F, i + 1, _, h => tkL_at (F := F) (i := i) (by simpa using h)
def SF.tkV : SF → VF
  | .o d => .uq d
  | .s d => .sh d
  | _ => .bo false
theorem de_tk (g : Gv G N sc X) (i : Nat) {x : Str} {pos : Pos} {fl : SF} (hN : N[i]? = some x := by rfl) (hv : visB sc x = true := by rfl) (hx : nameB x = true := by rfl) (hf : F[i]? = some fl := by rfl) (hn : fl.mvOk = true := by rfl) :
    PE X (.Name x pos) (TEv G W F (tkL F i) fl.tkV (eVar i)) := by
  obtain ⟨h1, h2, _⟩ := nameB_d hx
  refine pe_imp (pe_var (i := i) (by rw [g.nN]; exact hN) (visB_vis hv g.sc) h1 h2) ?_
  rintro σ H Q ⟨c, en, own, ok, m⟩
  unfold eVar at m
  split at m
  · rename_i d he
    obtain ⟨x', e1, q⟩ := ok.get he hf (by cases fl <;> simp_all [SF.mvOk]) (by cases fl <;> simp_all [SF.mvOk])
    refine ⟨x', e1, ?_⟩
    obtain ⟨own', ok', sb, tmq⟩ := ok.weak (tkL_wk F i)
    cases fl with
    | n => cases hn
    | z => cases hn
    | x _ => cases hn
    | dt _ => cases hn
    | ma _ => cases hn
    | s dp => exact m x' H own' ok' (Same.refl H) (fun a h => .inl (sb a h)) (R.up (Up.sub sb (by cases dp <;> rfl)) _ q)
    | o dp =>
      -- what the slot owned is reserved
      have h0 : ∀ a, a ∈ own.sl i → H a ≠ none ∧ c.H0 a = none := fun a ha => ⟨(ok.nw i a ha).1, (ok.nw i a ha).2.resolve_right fun ⟨z, _⟩ => by rw [hf] at z; cases z⟩
      let own2 : Own := ⟨fun j => if j = i then [] else own.sl j, fun a => own.tm a ∨ a ∈ own.sl i⟩
      have hs2 : ∀ a, ow own2 a → ow own a := fun a z => by
        rcases z with ⟨j, hj⟩ | z | z
        · have hj' : a ∈ (if j = i then [] else own.sl j) := hj
          split at hj'
          · cases hj'
          · exact .inl ⟨j, hj'⟩
        · exact .inr z
        · exact .inl ⟨i, z⟩
      have hsl : ∀ j a, a ∈ own2.sl j → j ≠ i ∧ a ∈ own.sl j := fun j a hj => by
        have hj' : a ∈ (if j = i then [] else own.sl j) := hj
        split at hj'
        · cases hj'
        · exact ⟨by assumption, hj'⟩
      have ok2 : Ok G c (tkL F i) en own2 σ H := by
        refine ⟨ok'.lF, ok.lE, ok.same, ok.tr, fun j1 j2 a q1 q2 => ok.dj j1 j2 a (hsl _ _ q1).2 (hsl _ _ q2).2, fun j a q1 q2 => ?_, fun a q1 => q1.elim (ok.nt a) (h0 a), fun j a q1 => ?_, fun j => ?_, fun a o h => ⟨(ok.lk a o h).1, (ok.lk a o h).2.imp id fun n z => n (hs2 a z)⟩⟩
        · rcases q2 with q2 | q2
          · exact ok.dt j a (hsl _ _ q1).2 q2
          · exact (hsl _ _ q1).1 (ok.dj j i a (hsl _ _ q1).2 q2)
        · obtain ⟨ne, q⟩ := hsl _ _ q1
          obtain ⟨q3, q4⟩ := ok.nw j a q
          refine ⟨q3, q4.imp id fun ⟨z1, z2⟩ => ⟨?_, z2⟩⟩
          have : ∀ (F : List SF) (i j : Nat), j ≠ i → (tkL F i)[j]? = F[j]? := fun F => by
            induction F with
            | nil => intro i j _; rfl
            | cons f F ih =>
              intro i j ne
              cases i with
              | zero => cases j with
                | zero => exact absurd rfl ne
                | succ j => rfl
              | succ i => cases j with
                | zero => rfl
                | succ j => exact ih i j (fun e => ne (congrArg Nat.succ e))
          rw [this F i j ne]
          exact z1
        · by_cases e : j = i
          · subst e
            unfold Slt
            rw [tkL_at hf]
            trivial
          · have es : own2.sl j = own.sl j := if_neg e
            have h2 := (ok.sl j).grow (w' := own2) (Same.refl H) es fun a z => .inl (hs2 a z)
            unfold Slt at h2 ⊢
            have : ∀ (F : List SF) (i j : Nat), j ≠ i → (tkL F i)[j]? = F[j]? := fun F => by
              induction F with
              | nil => intro i j _; rfl
              | cons f F ih =>
                intro i j ne
                cases i with
                | zero => cases j with
                  | zero => exact absurd rfl ne
                  | succ j => rfl
                | succ i => cases j with
                  | zero => rfl
                  | succ j => exact ih i j (fun e => ne (congrArg Nat.succ e))
            rw [this F i j e]
            exact h2
      exact m x' H own2 ok2 (Same.refl H) (fun a z => .inl (hs2 a z)) ⟨own.sl i, RO.up q (Up.sub hs2 (by cases dp <;> rfl)) fun _ _ _ z => z, fun a ha => .inr ha⟩
  · exact m.elim
end
end Pi
namespace Pi
open PySem PySem.Spec PyProof.Rows L2
structure Se where
  md : Bool
  W : WX
  Fc : List SF
structure Gs (G : Gb) (N : List Str) (sc : Scope) (k : Nat) (W : WX) (X : Cx) : Prop where
  g : Gd G N sc k W X
  fn : ∀ x, X.fn x = true
  kd : sc.kind = .function
  stk : X.stack = X.env :: X.outer
  frm : X.env.frame = some X.env.locals
def MtS (G : Gb) (W : WX) (c : Fr) {α : Type} (r : Rs α) (k : α → Prop) : Prop :=
  match r with
  | .ok a => k a
  | .error (.raise e) => ∀ σ' H', c.Sm H' → W (.ref (G.xa e)) none σ' H'
  | .error .stuck => False
def Fr.Lk (c : Fr) (H : Hp) : Prop := ∀ a o, c.L a = some o → H a = some o
def Aft (G : Gb) (S : Se) (c : Fr) (Fo : List SF) (D : Ends) : Fl → Prop
  | .nx en' => ∀ σ' H' own', Ok G c Fo en' own' σ' H' → D.nx σ' H'
  | .rt d => ∀ v H', c.Sm H' → c.Lk H' → RRet G S.md c.A0 c.H0 H' d v → D.rt v H'
  | .ct en' => ∀ σ' H' own', Ok G c S.Fc en' own' σ' H' → D.ct σ' H'
def TSv (G : Gb) (S : Se) (F : List SF) (Fo : List SF) (st : EvS) : TS := fun D σ H => ∃ (c : Fr) (en : En) (own : Own), Ok G c F en own σ H ∧ MtS G S.W c (st en) (Aft G S c Fo D)
section
variable {G : Gb} {S : Se} {W : WX} {N : List Str} {sc : Scope} {k : Nat} {X : Cx} {F F1 F2 F3 : List SF} {Fo : List SF} {f f1 f2 : VF} {c : Fr} {en : En} {own : Own} {σ : L2.St} {H H' : Hp}
theorem MtS.e {α : Type} {r : Rs α} {q : α → Prop} (h : MtS G W c r q) : Mt G W c σ r q := by
  cases r with
  | ok a => exact h
  | error e => cases e with
    | raise e => exact h σ
    | stuck => exact h
theorem MtS.bnd {α β : Type} {r : Rs α} {f : α → Rs β} {q : β → Prop} (h : MtS G W c (bnd r f) q) : MtS G W c r fun a => MtS G W c (f a) q := by
  cases r with
  | ok a => exact h
  | error e => cases e with
    | raise e => exact h
    | stuck => exact h
theorem MtS.imp {α : Type} {r : Rs α} {q q' : α → Prop} (h : MtS G W c r q) (m : ∀ a, r = .ok a → q a → q' a) : MtS G W c r q' := by
  cases r with
  | ok a => exact m a rfl h
  | error e => cases e with
    | raise e => exact h
    | stuck => exact h
theorem MtS.ofO {α : Type} {o : Option α} {q : α → Prop} (h : MtS G W c (ofO o) q) : ∃ a, o = some a ∧ q a := by
  cases o with
  | none => exact h.elim
  | some a => exact ⟨a, rfl, h⟩
def sNil : EvS := fun en => .ok (.nx en)
def sSeq (s t : EvS) : EvS := fun en => bnd (s en) fun fl => match fl with
  | .nx en' => t en'
  | x => .ok x
theorem ds_nil : PSs X [] (TSv G S F F sNil) := by
  refine pss_imp pss_nil ?_
  rintro D σ H ⟨c, en, own, ok, m⟩
  exact m σ H own ok
theorem ds_cons {st : Stmt} {rest : List Stmt} {s t : EvS} (h1 : PS X st (TSv G S F F1 s)) (h2 : PSs X rest (TSv G S F1 Fo t)) : PSs X (st :: rest) (TSv G S F Fo (sSeq s t)) := by
  refine pss_imp (pss_cons h1 h2) ?_
  rintro D σ H ⟨c, en, own, ok, m⟩
  refine ⟨c, en, own, ok, m.bnd.imp fun fl _ mf => ?_⟩
  cases fl with
  | nx en' => exact fun σ' H' own' ok' => ⟨c, en', own', ok', mf⟩
  | rt d => exact mf
  | ct en' => exact mf
theorem ds_one {st : Stmt} {s : EvS} (h1 : PS X st (TSv G S F Fo s)) : PSs X [st] (TSv G S F Fo s) := pss_one h1
theorem dss_wk {st : List Stmt} {s : EvS} (h : PSs X st (TSv G S F F1 s)) (w : wkL F1 F2 = true := by rfl) : PSs X st (TSv G S F F2 s) := by
  refine pss_imp h ?_
  rintro D σ H ⟨c, en, own, ok, m⟩
  refine ⟨c, en, own, ok, m.imp fun fl _ mf => ?_⟩
  cases fl with
  | nx en' =>
    intro σ' H' own' ok'
    obtain ⟨own2, ok2, _⟩ := ok'.weak w
    exact mf σ' H' own2 ok2
  | rt d => exact mf
  | ct en' => exact mf
def sRet (ev : EvE) : EvS := fun en => bnd (ev en) fun d => .ok (.rt d)
def sRai (e : Nat) : EvS := fun _ => .error (.raise e)
def sEx (ev : EvE) : EvS := fun en => bnd (ev en) fun _ => .ok (.nx en)
theorem Ok.ret {md : Bool} {d : D} {v : V} (ok : Ok G c F en own σ H) (r : RV G c own H f d v) (n : f.nb = true) (h : md = true → ∃ b, f = .uq b ∧ b = true) : RRet G md c.A0 c.H0 H d v := by
  cases md with
  | true =>
    obtain ⟨b, rfl, rfl⟩ := h rfl
    obtain ⟨os, h1, h2⟩ := r
    exact ⟨os, RO.up h1 (Up.same (Same.refl H) fun a z => ⟨z.2.1 rfl, fun y => z.1 (.inr (h2 a y))⟩) fun _ _ _ z => z, fun a ha => (ok.nt a (h2 a ha)).2⟩
  | false =>
    obtain ⟨own', ok', _, q⟩ := r.share ok n
    exact R.up (Up.same (Same.refl H) fun a z => z.2.2) _ q
def retOk (md : Bool) (f : VF) : Bool := match md, f with
  | true, .uq true => true
  | true, _ => false
  | false, f => f.nb
theorem retOk_of {md : Bool} (h : retOk md f = true) : f.nb = true ∧ (md = true → ∃ b, f = .uq b ∧ b = true) := by
  cases md with
  | true =>
    cases f with
    | uq b => cases b with
      | true => exact ⟨rfl, fun _ => ⟨true, rfl, rfl⟩⟩
      | false => cases h
    | sh _ => cases h
    | bo _ => cases h
  | false => exact ⟨h, fun z => by cases z⟩
theorem ds_ret {e : Expr} {pos : Pos} {ev : EvE} (he : PE X e (TEv G S.W F F1 f ev)) (h : retOk S.md f = true := by rfl) : PS X (.Return (some e) pos) (TSv G S F Fo (sRet ev)) := by
  refine ps_imp (ps_ret he) ?_
  rintro D σ H ⟨c, en, own, ok, m⟩
  obtain ⟨n, h2⟩ := retOk_of h
  exact ⟨c, en, own, ok, m.bnd.e.imp fun d _ q v H1 own1 ok1 s1 b1 r1 => q v H1 ok1.same (fun a o h => (ok1.lk a o h).1) (ok1.ret r1 n h2)⟩
structure Xcl (G : Gb) (x : Str) (e : Nat) : Prop where
  gl : G.mg x = some (.ref (G.xa e))
  ex : PySem.W.excIn G.K (G.xa e) [.type "ValueError", .type "Exception", .type "BaseException", .type "object"] "ValueError.__new__" = true
  kp : PySem.W.keepIn G.K (.ref (G.xa e)) = true
  sb : PySem.W.subIn G.K (.ref (G.xa e)) (.type "BaseException") = some true
  ty : PySem.W.typeIn G.K (.ref (G.xa e)) = some (.type "type")
theorem ds_rai (g : Gd G N sc k S.W X) {x m : Str} {e j : Nat} {p p2 pos cpos : Pos} (C : Xcl G x e) (hx : glbB sc x = true := by rfl) (hn : nameB x = true := by rfl) : PS X (.Raise (some (.Call (.Name x p) [.Constant (.str m) j p2] [] cpos)) none pos) (TSv G S F Fo (sRai e)) := by
  refine ps_imp (ps_raise g.calm g.tk (pmk_own PySem.F.excBase_ValueError (by rw [g.K]; exact C.ex) (by rw [g.mg]; exact C.gl) (by rw [g.K]; exact C.kp) (raises_own (by rw [g.K]; exact C.sb) (by rw [g.K]; exact C.ty)) (glbB_gl hx g.sc) (nameB_d hn).1)) ?_
  rintro D σ H ⟨c, en, own, ok, m⟩
  exact m σ H ok.same
def sIf (t : En → Rs Bool) (a b : EvS) : EvS := fun en => bnd (t en) fun c => if c = true then a en else b en
theorem ds_if {c : Expr} {a b : List Stmt} {pos : Pos} {t : En → Rs Bool} {ea eb : EvS} (hc : PT X c (TTv G S.W F F1 t)) (ha : PSs X a (TSv G S F1 Fo ea)) (hb : PSs X b (TSv G S F1 Fo eb)) : PS X (.If c a b pos) (TSv G S F Fo (sIf t ea eb)) := by
  refine ps_imp (ps_if hc ha hb) ?_
  rintro D σ H ⟨c, en, own, ok, m⟩
  refine ⟨c, en, own, ok, m.bnd.e.imp fun x _ mx H1 own1 ok1 s1 b1 => ?_⟩
  cases x with
  | true => rw [if_pos rfl] at mx; exact iteT ⟨c, en, own1, ok1, mx⟩
  | false => rw [if_neg (by decide)] at mx; exact iteF ⟨c, en, own1, ok1, mx⟩
def whB (r : Rs Fl) (k : En → Option (Rs Fl)) : Option (Rs Fl) := match r with
  | .error e => some (.error e)
  | .ok (.nx en') => k en'
  | .ok (.ct en') => k en'
  | .ok (.rt d) => some (.ok (.rt d))
def whT (r : Rs Bool) (en : En) (k : Option (Rs Fl)) : Option (Rs Fl) := match r with
  | .error e => some (.error e)
  | .ok false => some (.ok (.nx en))
  | .ok true => k
def whN (t : En → Rs Bool) (b : EvS) : Nat → En → Option (Rs Fl)
  | 0, _ => none
  | n + 1, en => whT (t en) en (whB (b en) (whN t b n))
open Classical in
noncomputable def sWh (t : En → Rs Bool) (b : EvS) : EvS := fun en => if h : ∃ n r, whN t b n en = some r then Classical.choose (Classical.choose_spec h) else .error .stuck
theorem whN_mono {t : En → Rs Bool} {b : EvS} : ∀ {n m : Nat} {en : En} {r : Rs Fl}, n ≤ m → whN t b n en = some r → whN t b m en = some r
  | 0, _, _, _, _, h => by cases h
  | n + 1, 0, _, _, h, _ => by omega
  | n + 1, m + 1, en, r, hm, h => by
    unfold whN at h ⊢
    revert h
    cases t en with
    | error e => exact id
    | ok c =>
      cases c with
      | false => exact id
      | true =>
        show whB (b en) (whN t b n) = some r → whB (b en) (whN t b m) = some r
        cases b en with
        | error e => exact id
        | ok fl =>
          cases fl with
          | nx en' => exact whN_mono (Nat.le_of_succ_le_succ hm)
          | ct en' => exact whN_mono (Nat.le_of_succ_le_succ hm)
          | rt d => exact id
theorem sWh_of {t : En → Rs Bool} {b : EvS} {n : Nat} {en : En} {r : Rs Fl} (h : whN t b n en = some r) : sWh t b en = r := by
  have hx : ∃ n r, whN t b n en = some r := ⟨n, r, h⟩
  unfold sWh
  rw [dif_pos hx]
  have h2 := Classical.choose_spec (Classical.choose_spec hx)
  have h3 := whN_mono (Nat.le_max_left n (Classical.choose hx)) h
  have h4 := whN_mono (Nat.le_max_right n (Classical.choose hx)) h2
  rw [h3] at h4
  exact (Option.some.inj h4).symm
theorem sWh_eq (t : En → Rs Bool) (b : EvS) (en : En) : sWh t b en = bnd (t en) fun c => if c = true then bnd (b en) fun fl => match fl with
    | .nx en' => sWh t b en'
    | .ct en' => sWh t b en'
    | x => .ok x
  else .ok (.nx en) := by
  have one : ∀ r, whN t b 1 en = some r → sWh t b en = r := fun r h => sWh_of h
  have e1 : ∀ n, whN t b (n + 1) en = whT (t en) en (whB (b en) (whN t b n)) := fun n => rfl
  cases ht : t en with
  | error e => exact one _ (by rw [e1, ht]; rfl)
  | ok c =>
    cases c with
    | false => exact one _ (by rw [e1, ht]; rfl)
    | true =>
      cases hb : b en with
      | error e => exact one _ (by rw [e1, ht, hb]; rfl)
      | ok fl =>
        have step : ∀ en', (fl = .nx en' ∨ fl = .ct en') → sWh t b en = sWh t b en' := fun en' hfl => by
          have e2 : ∀ n, whN t b (n + 1) en = whN t b n en' := fun n => by
            rw [e1, ht, hb]
            rcases hfl with rfl | rfl <;> rfl
          by_cases hx : ∃ n r, whN t b n en' = some r
          · obtain ⟨n, r, h⟩ := hx
            rw [sWh_of h]
            exact sWh_of (n := n + 1) ((e2 n).trans h)
          · have hx' : ¬ ∃ n r, whN t b n en = some r := fun ⟨n, r, h⟩ => by
              cases n with
              | zero => cases h
              | succ n => exact hx ⟨n, r, (e2 n).symm.trans h⟩
            unfold sWh
            rw [dif_neg hx, dif_neg hx']
        cases fl with
        | nx en' => exact step en' (.inl rfl)
        | ct en' => exact step en' (.inr rfl)
        | rt d => exact one _ (by rw [e1, ht, hb]; rfl)
theorem sWh_some {t : En → Rs Bool} {b : EvS} {en : En} (h : sWh t b en ≠ .error .stuck) : ∃ n r, whN t b n en = some r := by
  by_cases hx : ∃ n r, whN t b n en = some r
  · exact hx
  · exact absurd (by unfold sWh; rw [dif_neg hx]) h
theorem ds_while (g : Gd G N sc k S.W X) {c : Expr} {b : List Stmt} {pos : Pos} {t : En → Rs Bool} {eb : EvS} (hc : PT X c (TTv G S.W F F t)) (hb : PSs X b (TSv G { S with Fc := F } F F eb)) : PS X (.While c b [] pos) (TSv G S F F (sWh t eb)) := by
  refine ps_imp (ps_while g.po hc hb) ?_
  rintro D σ H ⟨c, en, own, ok, m⟩
  have hns : sWh t eb en ≠ .error .stuck := fun z => by rw [z] at m; exact m
  obtain ⟨n0, r0, h0⟩ := sWh_some hns
  refine ⟨fun n σ H => ∃ en own r, Ok G c F en own σ H ∧ whN t eb n en = some r ∧ MtS G S.W c r (Aft G S c F D), ⟨n0, en, own, r0, ok, h0, by rw [← sWh_of h0]; exact m⟩, ?_⟩
  rintro n σ H ⟨en, own, r, ok, h, m⟩
  cases n with
  | zero => cases h
  | succ n =>
    unfold whN at h
    refine ⟨c, en, own, ok, ?_⟩
    cases ht : t en with
    | error e =>
      rw [ht] at h
      cases h
      cases e with
      | raise e => exact m σ
      | stuck => exact m
    | ok cv =>
      rw [ht] at h
      intro H1 own1 ok1 s1 b1
      cases cv with
      | false =>
        cases h
        exact m σ H1 own1 ok1
      | true =>
        refine ⟨fun σ' H' => ∃ en own r, Ok G c F en own σ' H' ∧ whN t eb n en = some r ∧ MtS G S.W c r (Aft G S c F D), fun σ' H' q => ⟨n, Nat.lt_succ_self n, q⟩, c, en, own1, ok1, ?_⟩
        have h' : whB (eb en) (whN t eb n) = some r := h
        cases he : eb en with
        | error e =>
          rw [he] at h'
          cases h'
          cases e with
          | raise e => exact m
          | stuck => exact m
        | ok fl =>
          rw [he] at h'
          cases fl with
          | nx en' => exact fun σ' H' own' ok' => ⟨en', own', r, ok', h', m⟩
          | ct en' => exact fun σ' H' own' ok' => ⟨en', own', r, ok', h', m⟩
          | rt d => cases h'; exact m
end
end Pi
namespace Pi
open PySem PySem.Spec PyProof.Rows L2
def plainLocB (sc : Scope) (x : Str) : Bool := match sc.names.lookup x with
  | some .local => true
  | _ => false
section
variable {G : Gb} {S : Se} {W : WX} {N : List Str} {sc : Scope} {k : Nat} {X : Cx} {F F1 F2 F3 : List SF} {Fo : List SF} {f f1 f2 : VF} {c : Fr} {en : En} {own : Own} {σ : L2.St} {H H' : Hp}
theorem locB_loc {x : Str} (h : locB sc x = true) (e : X.env.scope = sc) : Loc X.env.scope x := by
  rw [e]
  unfold locB at h
  split at h
  · exact .inl (by assumption)
  · exact .inr (by assumption)
  · cases h
theorem plainLocB_loc {x : Str} (h : plainLocB sc x = true) (e : X.env.scope = sc) : X.env.scope.names.lookup x = some .local := by
  rw [e]
  unfold plainLocB at h
  split at h
  · assumption
  · cases h
def zB (F : List SF) (i : Nat) : Bool := decide (i < F.length) && (match F[i]? with
  | some .z => false
  | some (.ma _) => false
  | _ => true)
theorem zB_of {i : Nat} (h : zB F i = true) : i < F.length ∧ ¬ SF.me F[i]? := by
  unfold zB at h
  simp only [Bool.and_eq_true, decide_eq_true_eq] at h
  obtain ⟨h1, h2⟩ := h
  refine ⟨h1, fun e => ?_⟩
  cases q : F[i]? with
  | none => rw [q] at e; exact e
  | some f =>
    rw [q] at e h2
    cases f <;> first | exact e | cases h2
def sAs (i : Nat) (ev : EvE) : EvS := fun en => bnd (ev en) fun d => .ok (.nx (en.set i (some d)))
theorem as_core {i : Nat} {ev : EvE} {te : TE} (hz : zB F1 i = true) (hn : f.nb = true) (ht : ∀ σ H Q, TEv G S.W F F1 f ev σ H Q → te σ H Q) : ∀ D σ H, TSv G S F (F1.set i f.slot) (sAs i ev) D σ H → tAsg te (gName i) D σ H := by
  rintro D σ H ⟨c, en, own, ok, m⟩
  refine ht _ _ _ ⟨c, en, own, ok, m.bnd.e.imp fun d _ q v H1 own1 ok1 s1 b1 r1 => ?_⟩
  obtain ⟨h1, h2⟩ := zB_of hz
  obtain ⟨own2, ok2, _⟩ := ok1.put h1 h2 r1 hn
  exact q _ H1 own2 ok2
theorem ds_as (g : Gv G N sc X) (hfn : ∀ x, X.fn x = true) (i : Nat) {x : Str} {e : Expr} {pos pos' : Pos} {ev : EvE} (he : PE X e (TEv G S.W F F1 f ev)) (hN : N[i]? = some x := by rfl) (hx : locB sc x = true := by rfl) (hz : zB F1 i = true := by rfl) (hn : f.nb = true := by rfl)
    (hs : swapsWith e (some (.Name x pos')) pos.line X.env = pure false := by rfl) : PS X (.Assign [.Name x pos'] e pos) (TSv G S F (F1.set i f.slot) (sAs i ev)) :=
  ps_imp (ps_set (by rw [g.nN]; exact g.nd) (by rw [g.nN]; exact hN) (locB_loc hx g.sc) he hs (.inl (hfn x))) (as_core hz hn fun _ _ _ z => z)
def setAll : En → List Nat → List D → En
  | en, i :: is, d :: ds => setAll (en.set i (some d)) is ds
  | en, _, _ => en
def sTu (is : List Nat) (ev : EvE) : EvS := fun en => bnd (ev en) fun d => match d with
  | .tup ds => if ds.length = is.length then .ok (.nx (setAll en is ds)) else .error .stuck
  | _ => .error .stuck
def setF (F : List SF) (f : SF) : List Nat → List SF
  | [] => F
  | i :: is => setF (F.set i f) f is
def tgB (N : List Str) (sc : Scope) (F : List SF) : List Nat → List Expr → Bool
  | [], [] => true
  | i :: is, .Name x _ :: es => decide (N[i]? = some x) && locB sc x && zB F i && tgB N sc F is es
  | _, _ => false
def gNames : List Nat → TGs
  | [] => gNil
  | i :: is => gCons (gName i) (gNames is)
theorem zB_set {i j : Nat} {f : SF} (hf : ¬ SF.me (some f)) (h : zB F i = true) : zB (F.set j f) i = true := by
  obtain ⟨h1, h2⟩ := zB_of h
  have h3 : i < (F.set j f).length := by simpa using h1
  have h4 : ¬ SF.me (F.set j f)[i]? := by
    by_cases e : j = i
    · subst e; rw [List.getElem?_set_self h1]; exact hf
    · rw [List.getElem?_set_ne e]; exact h2
  unfold zB
  simp only [Bool.and_eq_true, decide_eq_true_eq]
  refine ⟨h3, ?_⟩
  cases q : (F.set j f)[i]? with
  | none => trivial
  | some x => rw [q] at h4; cases x <;> first | trivial | exact absurd trivial h4
theorem tgB_set {j : Nat} {f : SF} (hf : ¬ SF.me (some f)) : ∀ {is : List Nat} {es : List Expr}, tgB N sc F is es = true → tgB N sc (F.set j f) is es = true
  | [], [], _ => rfl
  | i :: is, .Name x _ :: es, h => by
    simp only [tgB, Bool.and_eq_true] at h ⊢
    exact ⟨⟨h.1.1, zB_set hf h.1.2⟩, tgB_set hf h.2⟩
  | [], e :: es, h => by cases e <;> cases h
  | i :: is, [], h => by cases h
theorem dg_names (hnN : X.N = N) (hnd : N.Nodup) (hsc : X.env.scope = sc) (hfn : ∀ x, locB sc x = true → X.fn x = true ∨ X.env.scope.names.lookup x = some .local) : ∀ {is : List Nat} {es : List Expr}, tgB N sc F is es = true →
    PGs X es (gNames is) ∧ (assignEach es X.env).length = is.length ∧ (assignEach es X.env).findIdx? (·.1) = none
  | [], [], _ => ⟨pgs_nil, rfl, rfl⟩
  | i :: is, .Name x p :: es, h => by
    simp only [tgB, Bool.and_eq_true, decide_eq_true_eq] at h
    obtain ⟨ih1, ih2, ih3⟩ := dg_names hnN hnd hsc hfn h.2
    refine ⟨pgs_cons (pg_name (i := i) (by rw [hnN]; exact hnd) (by rw [hnN]; exact h.1.1.1) (locB_loc h.1.1.2 hsc) (hfn x h.1.1.2)) ih1 rfl, ?_, ?_⟩
    · show (assignEach es X.env).length + 1 = is.length + 1
      rw [ih2]
    · show List.findIdx? _ ((false, assign (.Name x p) X.env) :: assignEach es X.env) = none
      rw [List.findIdx?_cons]
      simp [ih3]
  | [], e :: es, h => by cases e <;> cases h
  | i :: is, [], h => by cases h
theorem names_core {dp : Bool} : ∀ {is : List Nat} {es : List Expr} {F : List SF} {en : En} {own : Own} {σ : L2.St} {ds : List D} {vs : List V} {Q : L2.St → Hp → Prop}, tgB N sc F is es = true → Ok G c F en own σ H → RL G (Av c (ow own) dp) H ds vs → ds.length = is.length →
    (∀ σ' own', Ok G c (setF F (.s dp) is) (setAll en is ds) own' σ' H → (∀ a, ow own' a → ow own a) → Q σ' H) → gNames is vs σ H Q
  | [], [], F, en, own, σ, ds, vs, Q, _, ok, r, hl, q => by
    cases ds with
    | nil => exact ⟨r, q σ own ok fun _ h => h⟩
    | cons _ _ => cases hl
  | i :: is, .Name x p :: es, F, en, own, σ, ds, vs, Q, h, ok, r, hl, q => by
    cases ds with
    | nil => cases hl
    | cons d ds =>
      obtain ⟨v, t, e, r1, r2⟩ := r
      simp only [tgB, Bool.and_eq_true] at h
      obtain ⟨h1, h2⟩ := zB_of h.1.2
      obtain ⟨own2, ok2, sb⟩ := ok.put (f := .sh dp) h1 h2 r1 rfl
      exact ⟨v, t, e, names_core (tgB_set (f := .s dp) id h.2) ok2 (RL.up (Up.sub sb (by cases dp <;> rfl)) _ r2) (Nat.succ.inj hl) fun σ' own' ok' sb' => q σ' own' ok' fun a z => sb a (sb' a z)⟩
  | [], e :: es, _, _, _, _, _, _, _, h, _, _, _, _ => by cases e <;> cases h
  | i :: is, [], _, _, _, _, _, _, _, h, _, _, _, _ => by cases h
theorem ds_tu (g : Gs G N sc k S.W X) (is : List Nat) {es : List Expr} {e : Expr} {n : Nat} {pos tp : Pos} {ev : EvE} (he : PE X e (TEv G S.W F F1 f ev)) (ht : tgB N sc F1 is es = true := by rfl) (hs : swapsWithSole [.Tuple es n tp] e pos.line X.env = pure false := by rfl)
    (hw : swappedStores [.Tuple es n tp] e X.env = pure none := by rfl) : PS X (.Assign [.Tuple es n tp] e pos) (TSv G S F (setF F1 (.s f.dp) is) (sTu is ev)) := by
  obtain ⟨h1, h2, h3⟩ := dg_names g.g.nN g.g.nd g.g.sc (fun x _ => .inl (g.fn x)) ht
  refine ps_imp (ps_asg he (pg_tup (n := is.length) g.g.calm h1 h2 h3) hs hw rfl) ?_
  rintro D σ H ⟨c, en, own, ok, m⟩
  refine ⟨c, en, own, ok, m.bnd.e.imp fun d _ q v H1 own1 ok1 s1 b1 r1 => ?_⟩
  cases d <;> first | exact q.elim | skip
  rename_i ds
  dsimp only at q
  split at q
  · rename_i hl
    obtain ⟨a, xs, rfl, hq, rl⟩ := r1.b
    refine ⟨a, xs, rfl, by rw [g.g.K]; exact hq, by rw [rl.len]; exact hl, names_core ht ok1 rl hl fun σ' own' ok' _ => q σ' H1 own' ok'⟩
  · exact q.elim
def sPar (i j : Nat) (a b : EvE) : EvS := fun en => bnd (a en) fun x => bnd (b en) fun y => .ok (.nx ((en.set i (some x)).set j (some y)))
theorem sw_par {a b : Expr} {x y : Str} {px py pt pt2 : Pos} {kt k2 : Nat} {env : Env} (hk : env.scope.kind = .function) (hx : env.scope.names.lookup x = some .local) (hy : env.scope.names.lookup y = some .local) (hxy : x ≠ y) (hl : py.line = px.line)
    (h1 : ([a, b].any fun | .Starred .. => true | _ => false) = false) (h2 : [a, b].all (foldedForSure 8) = false) (h3 : [a, b].all (constantsAlone 8) = false) :
    swappedStores [.Tuple [.Name x px, .Name y py] kt pt] (.Tuple [a, b] k2 pt2) env = pure (some [x, y]) := by
  have hb : env.blockKind = .function := by unfold Env.blockKind; rw [hk]; rfl
  have kx : env.kindOf x = some .local := hx
  have ky : env.kindOf y = some .local := hy
  have hne : ¬ y = x := fun e => hxy e.symm
  have hst : ∀ e : Expr, e ∈ [a, b] → (match e with | .Starred _ _ => true | _ => false) = false := fun e he => by
    have := List.any_eq_false.mp h1 e he
    revert this
    cases e <;> simp
  have sa := hst a (by simp)
  have sb := hst b (by simp)
  unfold swappedStores
  simp only [hb, h1, h2, h3]
  simp [kx, ky, hl, hne, List.eraseDups_cons, Expr.pos]
  rintro (hh | hh)
  · exfalso
    revert sa
    cases a <;> simp_all
  · exfalso
    revert sb
    cases b <;> simp_all
theorem ds_par (g : Gs G N sc k S.W X) (i j : Nat) {x y : Str} {a b : Expr} {px py pt pt2 pos : Pos} {kt k2 : Nat} {ea eb : EvE} (ha : PE X a (TEv G S.W F F1 f1 ea)) (hb : PE X b (TEv G S.W F1 F2 f2 eb)) (hN : N[i]? = some x := by rfl) (hN2 : N[j]? = some y := by rfl) (hij : i ≠ j := by decide)
    (hx : plainLocB sc x = true := by rfl) (hy : plainLocB sc y = true := by rfl) (hxy : x ≠ y := by decide) (hz : zB F2 i = true := by rfl) (hz2 : zB F2 j = true := by rfl) (hn1 : f1.nb = true := by rfl) (hn2 : f2.nb = true := by rfl) (hl : py.line = px.line := by rfl)
    (h1 : ([a, b].any fun | .Starred .. => true | _ => false) = false := by rfl) (h2 : [a, b].all (foldedForSure 8) = false := by rfl) (h3 : [a, b].all (constantsAlone 8) = false := by rfl) (hsa : starEach [a, b] X.env = [(false, eval a X.env), (false, eval b X.env)] := by rfl) (hsb : starEach [b] X.env = [(false, eval b X.env)] := by rfl)
    (hsw : swapsWithSole [.Tuple [.Name x px, .Name y py] kt pt] (.Tuple [a, b] k2 pt2) pos.line X.env = pure false := by rfl) :
    PS X (.Assign [.Tuple [.Name x px, .Name y py] kt pt] (.Tuple [a, b] k2 pt2) pos) (TSv G S F ((F2.set i (.s f1.dp)).set j (.s f2.dp)) (sPar i j ea eb)) := by
  have lx := plainLocB_loc hx g.g.sc
  have ly := plainLocB_loc hy g.g.sc
  refine ps_imp (ps_par g.g.calm (by rw [g.g.nN]; exact g.g.nd) (by rw [g.g.nN]; exact hN) (by rw [g.g.nN]; exact hN2) hij lx ly (pa_cons ha (pa_cons hb pa_nil hsb) (by rw [hsa, hsb])) (sw_par (by rw [g.g.sc]; exact g.kd) lx ly hxy hl h1 h2 h3) hsw) ?_
  rintro D σ H ⟨c, en, own, ok, m⟩
  refine ⟨c, en, own, ok, m.bnd.e.imp fun d1 _ q1 v1 H1 own1 ok1 s1 b1 r1 => ?_⟩
  obtain ⟨own1', ok1', k1, a1⟩ := r1.share ok1 hn1
  refine ⟨c, en, own1', ok1', q1.bnd.e.imp fun d2 _ q2 v2 H2 own2 ok2 s2 b2 r2 => ?_⟩
  obtain ⟨own2', ok2', k2', a2⟩ := r2.share ok2 hn2
  have a1' : R G (Av c (ow own2') f1.dp) H2 d1 v1 := R.up (Up.grow s2 (fun a z => b2 a (k2' a z)) (by cases f1.dp <;> rfl)) _ a1
  obtain ⟨z1, z2⟩ := zB_of hz
  obtain ⟨own3, ok3, k3⟩ := ok2'.put (f := .sh f1.dp) z1 z2 a1' rfl
  have hz3 : zB (F2.set i (VF.sh f1.dp).slot) j = true := zB_set id hz2
  obtain ⟨z3, z4⟩ := zB_of hz3
  obtain ⟨own4, ok4, _⟩ := ok3.put (f := .sh f2.dp) z3 z4 (R.up (Up.sub k3 (by cases f2.dp <;> rfl)) _ a2) rfl
  exact ⟨v1, v2, rfl, q2 _ H2 own4 ok4⟩
theorem Ok.ownR (ok : Ok G c F en own σ H) {i : Nat} {dp : Bool} {d : D} (hf : F[i]? = some (.o dp)) (he : en[i]? = some (some d)) : ∃ x, σ[i]? = some (some x) ∧ RO G (Av c (ow own) dp) H d x (own.sl i) := ok.get he hf (by simp)
theorem Ok.wr (ok : Ok G c F en own σ H) {i : Nat} {dp dp' : Bool} {p : Addr} {o o' : HO} {d' : D} (hf : F[i]? = some (.o dp)) (hp : own.sl i = [p]) (hH : H p = some o) (w : Wr o) (hσ : σ[i]? = some (some (.ref p)))
    (new : RO G (Av c (ow own) dp') (upd H p o') d' (.ref p) [p]) : Ok G c (F.set i (.o dp')) (en.set i (some d')) own σ (upd H p o') := by
  have hi : i < F.length := (List.getElem?_eq_some_iff.mp hf).1
  have hpi : p ∈ own.sl i := by rw [hp]; simp
  have hpo : ow own p := .inl ⟨i, hpi⟩
  have h0 : c.H0 p = none := (ok.nw i p hpi).2.resolve_right fun ⟨z, _⟩ => by rw [hf] at z; cases z
  have nn : ∀ {a}, H a ≠ none → upd H p o' a ≠ none := fun {a} h => by
    by_cases e : a = p
    · rw [e, upd_same]; simp
    · rw [upd_ne e]; exact h
  have nz : ∀ j, SF.zf F[j]? → SF.zf (F.set i (SF.o dp'))[j]? := fun j z1 => by
    have ne : i ≠ j := fun e => by rw [← e, hf] at z1; exact z1
    exact zf_set ne z1
  refine ⟨by simpa using ok.lF, by simpa using ok.lE, fun b x nb e => ?_, fun a h => nn (ok.tr a h), ok.dj, ok.dt, fun a h => ⟨nn (ok.nt a h).1, (ok.nt a h).2⟩, fun j a h => ⟨nn (ok.nw j a h).1, (ok.nw j a h).2.imp id fun ⟨z1, z2⟩ => ⟨nz j z1, z2⟩⟩, fun j => ?_, fun a x h => ?_⟩
  · have ne : b ≠ p := fun e' => by rw [e', h0] at e; cases e
    rw [upd_ne ne]
    exact ok.same b x nb e
  · by_cases e : j = i
    · subst e
      unfold Slt
      rw [List.getElem?_set_self hi, List.getElem?_set_self (by rw [ok.lE, ← ok.lF]; exact hi)]
      refine ⟨.ref p, hσ, ?_⟩
      rw [hp]
      exact new
    · have h := ok.sl j
      unfold Slt at h ⊢
      rw [List.getElem?_set_ne (fun z => e z.symm), List.getElem?_set_ne (fun z => e z.symm)]
      have na : ∀ b, ¬ Av c (ow own) b p := fun b z => z.1 hpo
      have pj : ∀ a x, a ∈ own.sl j → H a = some x → upd H p o' a = some x := fun a x ha hx => by
        rw [upd_ne (fun e' => e (ok.dj j i a ha (by rw [e']; exact hpi)))]
        exact hx
      split
      · rename_i dp' d hf' he; rw [hf', he] at h; obtain ⟨x, h1, h2⟩ := h; exact ⟨x, h1, R.up (Up.write hH w (na _)) _ h2⟩
      · rename_i dp' d hf' he; rw [hf', he] at h; obtain ⟨x, h1, h2⟩ := h; exact ⟨x, h1, RO.up h2 (Up.write hH w (na _)) pj⟩
      · rename_i d hf' he; rw [hf', he] at h; obtain ⟨x, h1, h2, h3⟩ := h; exact ⟨x, h1, RO.up h2 (Up.write hH w (na _)) pj, h3⟩
      · rename_i hf'; rw [hf'] at h; simpa using h
      · rename_i sh d hf' he; rw [hf', he] at h; obtain ⟨x, h1, h2, h3⟩ := h; exact ⟨x, h1, RS.up (Up.write hH w (na _)) _ h2 pj, h3⟩
      · rename_i sh d hf' he; rw [hf', he] at h; obtain ⟨x, h1, h2, h3⟩ := h; exact ⟨x, h1, RS.up (Up.write hH w (na _)) _ h2 pj, h3⟩
      · trivial
  · obtain ⟨q1, q2⟩ := ok.lk a x h
    have ne : a ≠ p := fun e => by
      subst e
      rw [hH] at q1
      cases q1
      rcases q2 with q2 | q2
      · cases o <;> first | exact w.elim | exact q2.elim
      · exact q2 hpo
    exact ⟨by rw [upd_ne ne]; exact q1, q2⟩
def getL (i : Nat) (en : En) : Rs (List D) := match en[i]? with
  | some (some (.lst l)) => .ok l
  | _ => .error .stuck
def sApp (i : Nat) (ev : EvE) : EvS := fun en => bnd (getL i en) fun l => bnd (ev en) fun d => if l.length < sizeLine then .ok (.nx (en.set i (some (.lst (l ++ [d]))))) else .error .stuck
theorem getL_ok {i : Nat} {q : List D → Prop} (h : MtS G W c (getL i en) q) : ∃ l, en[i]? = some (some (.lst l)) ∧ q l := by
  unfold getL at h
  split at h
  · rename_i l e; exact ⟨l, e, h⟩
  · exact h.elim
theorem Ok.ownL (ok : Ok G c F en own σ H) {i : Nat} {dp : Bool} {l : List D} (hf : F[i]? = some (.o dp)) (he : en[i]? = some (some (.lst l))) : ∃ p xs, σ[i]? = some (some (.ref p)) ∧ own.sl i = [p] ∧ H p = some (.lst xs) ∧ RL G (Av c (ow own) dp) H l xs := by
  obtain ⟨x, h1, p, xs, e, eo, h2, h3⟩ := ok.ownR hf he
  exact ⟨p, xs, by rw [h1, e], eo, h2, h3⟩
theorem Ok.wrL (ok : Ok G c F en own σ H) {i : Nat} {dp dp' : Bool} {p : Addr} {xs ys : List V} {m : List D} (hf : F[i]? = some (.o dp)) (hp : own.sl i = [p]) (hH : H p = some (.lst xs)) (hσ : σ[i]? = some (some (.ref p)))
    (r : RL G (Av c (ow own) dp') H m ys) : Ok G c (F.set i (.o dp')) (en.set i (some (.lst m))) own σ (upd H p (.lst ys)) :=
  ok.wr hf hp hH trivial hσ ⟨p, ys, rfl, rfl, upd_same, RL.up (Up.write hH trivial fun z => z.1 (.inl ⟨i, by rw [hp]; simp⟩)) _ r⟩
theorem sig_inj {σ : L2.St} {i : Nat} {p q : Addr} (h : σ[i]? = some (some (.ref p))) (h' : σ[i]? = some (some (.ref q))) : p = q := by
  rw [h] at h'
  cases h'
  rfl
theorem ds_app (g : Gv G N sc X) (i : Nat) {x : Str} {e : Expr} {px apos cpos pos : Pos} {ev : EvE} {dp0 dp : Bool} (he : PE X e (TEv G S.W F F1 f ev)) (hN : N[i]? = some x := by rfl) (hv : visB sc x = true := by rfl) (hx : nameB x = true := by rfl) (hf0 : F[i]? = some (.o dp0) := by rfl) (hf : F1[i]? = some (.o dp) := by rfl) (hn : f.nb = true := by rfl)
    (hs : starEach [e] X.env = [(false, eval e X.env)] := by rfl) (hline : (apos.endLine == cpos.line) = true := by rfl) :
    PS X (.Expr (.Call (.Attribute (.Name x px) "append" apos) [e] [] cpos) pos) (TSv G S F (F1.set i (.o (dp && f.dp))) (sApp i ev)) := by
  obtain ⟨h1, h2, _⟩ := nameB_d hx
  refine ps_imp (ps_expr (pe_bm PySem.F.plainAttrs_list PySem.F.slot_list_append PySem.F.type_list_append mt_append (pe_var (i := i) (by rw [g.nN]; exact hN) (visB_vis hv g.sc) h1 h2) (pa_cons he pa_nil hs) rfl (by rw [hs]; rfl) hline hs rfl) rfl) ?_
  rintro D σ H ⟨c, en, own, ok, m⟩
  obtain ⟨l, hl, m⟩ := getL_ok m.bnd
  obtain ⟨p, xs, e1, e2, e3, e4⟩ := ok.ownL hf0 hl
  refine ⟨.ref p, e1, .inl ⟨rfl, xs, SqL.of e3⟩, c, en, own, ok, m.bnd.e.imp fun d _ q v H1 own1 ok1 s1 b1 r1 => ?_⟩
  obtain ⟨own1', ok1', k1, a1⟩ := r1.share ok1 hn
  obtain ⟨p', xs', e1', e2', e3', e4'⟩ := ok1'.ownL hf hl
  have ep := sig_inj e1 e1'
  subst ep
  split at q
  · rename_i hlen
    refine ⟨p, xs', v, rfl, rfl, e3', by rw [e4'.len]; exact hlen, q σ _ own1' (ok1'.wrL (dp' := dp && f.dp) hf e2' e3' e1' (RL.app ?_ (RL.cons ?_ RL.nil)))⟩
    · exact RL.up (Up.sub (fun _ h => h) (by cases dp <;> cases f.dp <;> rfl)) _ e4'
    · exact R.up (Up.sub (fun _ h => h) (by cases dp <;> cases f.dp <;> rfl)) _ a1
  · exact q.elim
def sSub (i : Nat) (ek ev : EvE) : EvS := fun en => bnd (getL i en) fun l => bnd (ev en) fun d => bnd (ek en) fun kd => match kd with
  | .int j => match ixN l.length j with
    | some n => .ok (.nx (en.set i (some (.lst (l.set n d)))))
    | none => .error .stuck
  | _ => .error .stuck
theorem ds_sub (g : Gv G N sc X) (i : Nat) {x : Str} {e ix : Expr} {px spos pos : Pos} {ek ev : EvE} {dp0 dp : Bool} (he : PE X e (TEv G S.W F F1 f ev)) (hi : PE X ix (TEv G S.W F1 F2 f2 ek)) (hN : N[i]? = some x := by rfl) (hv : visB sc x = true := by rfl) (hx : nameB x = true := by rfl) (hf0 : F1[i]? = some (.o dp0) := by rfl) (hf : F2[i]? = some (.o dp) := by rfl) (hn : f.nb = true := by rfl)
    (hs : swapsWithSole [.Subscript (.Name x px) ix spos] e pos.line X.env = pure false := by rfl) (hw : swappedStores [.Subscript (.Name x px) ix spos] e X.env = pure none := by rfl)
    (ha : ∀ v, assign (.Subscript (.Name x px) ix spos) X.env v = (do
      let ov ← holding [v] (eval (.Name x px) X.env)
      let iv ← holding [v, ov] (eval ix X.env)
      standAt spos
      holding [v, ov, iv] (setItem ov iv v)
      release [v, ov, iv] []) := by intro _; rfl) :
    PS X (.Assign [.Subscript (.Name x px) ix spos] e pos) (TSv G S F (F2.set i (.o (dp && f.dp))) (sSub i ek ev)) := by
  obtain ⟨h1, h2, _⟩ := nameB_d hx
  refine ps_imp (ps_asg he (pg_sub (pe_var (i := i) (by rw [g.nN]; exact hN) (visB_vis hv g.sc) h1 h2) hi set_list ha) hs hw rfl) ?_
  rintro D σ H ⟨c, en, own, ok, m⟩
  obtain ⟨l, hl, m⟩ := getL_ok m.bnd
  refine ⟨c, en, own, ok, m.bnd.e.imp fun d _ q v H1 own1 ok1 s1 b1 r1 => ?_⟩
  obtain ⟨own1', ok1', k1, a1⟩ := r1.share ok1 hn
  obtain ⟨p, xs, e1, e2, e3, e4⟩ := ok1'.ownL hf0 hl
  refine ⟨.ref p, e1, c, en, own1', ok1', q.bnd.e.imp fun kd hkd q v2 H2 own2 ok2 s2 b2 r2 => ?_⟩
  obtain ⟨p', xs', e1', e2', e3', e4'⟩ := ok2.ownL hf hl
  have ep := sig_inj e1 e1'
  subst ep
  clear hkd
  cases kd <;> first | exact q.elim | skip
  rename_i j
  dsimp only at q
  split at q
  · rename_i n hj
    refine ⟨p, xs', j, n, rfl, r2.int, e3', by rw [e4'.len]; exact hj, q σ _ own2 (ok2.wrL (dp' := dp && f.dp) hf e2' e3' e1' (RL.set n ?_ ?_))⟩
    · exact RL.up (Up.sub (fun _ h => h) (by cases dp <;> cases f.dp <;> rfl)) _ e4'
    · exact R.up (Up.grow s2 b2 (by cases dp <;> cases f.dp <;> rfl)) _ a1
  · exact q.elim
end
end Pi
namespace Pi
open PySem PySem.Spec PyProof.Rows L2
open Classical in
noncomputable def Fr.pin (c : Fr) (own : Own) (H : Hp) : Fr := { c with L := fun b => match H b with
  | some o => if Im o ∨ ¬ ow own b then some o else none
  | none => none }
section
variable {G : Gb} {S : Se} {W : WX} {N : List Str} {sc : Scope} {k : Nat} {X : Cx} {F F1 F2 F3 Fh : List SF} {Fo : List SF} {f f1 f2 : VF} {c : Fr} {en : En} {own own0 : Own} {σ : L2.St} {H H' H0 : Hp}
theorem pin_at {a : Addr} {o : HO} (h : (c.pin own H).L a = some o) : H a = some o ∧ (Im o ∨ ¬ ow own a) := by
  unfold Fr.pin at h
  dsimp only at h
  split at h
  · rename_i o' e
    split at h
    · rename_i q
      cases h
      exact ⟨e, q⟩
    · cases h
  · cases h
theorem pin_of {a : Addr} {o : HO} (e : H a = some o) (q : Im o ∨ ¬ ow own a) : (c.pin own H).L a = some o := by
  unfold Fr.pin
  dsimp only
  rw [e]
  exact if_pos q
theorem Ok.fr {c' : Fr} (ok : Ok G c F en own σ H) (h0 : c'.H0 = c.H0) (hA : c'.A0 = c.A0) (hS : c'.S = c.S) (hv : c'.vl = c.vl) (hl : ∀ a o, c'.L a = some o → H a = some o ∧ (Im o ∨ ¬ ow own a)) : Ok G c' F en own σ H := by
  obtain ⟨H0, A0, S, L, vl⟩ := c
  obtain ⟨H0', A0', S', L', vl'⟩ := c'
  dsimp only at h0 hA hS hv
  subst h0 hA hS hv
  exact ⟨ok.lF, ok.lE, ok.same, ok.tr, ok.dj, ok.dt, ok.nt, ok.nw, ok.sl, hl⟩
theorem Ok.pin (ok : Ok G c F en own σ H) : Ok G (c.pin own H) F en own σ H := ok.fr rfl rfl rfl rfl fun _ _ h => pin_at h
theorem Ok.unpin (ok : Ok G (c.pin own0 H0) F en own σ H) (h : ∀ a o, c.L a = some o → H0 a = some o ∧ (Im o ∨ ¬ ow own0 a)) : Ok G c F en own σ H :=
  ok.fr rfl rfl rfl rfl fun a o e => ok.lk a o (pin_of (h a o e).1 (h a o e).2)
theorem Up.pin {dp : Bool} (ok : Ok G (c.pin own0 H0) F en own σ H) : Up G.K (Av c (ow own0) dp) (Av c (ow own) dp) H0 H := by
  have m : ∀ {a o}, Av c (ow own0) dp a → H0 a = some o → ¬ Im o → Av c (ow own) dp a ∧ H a = some o := fun {a o} h e n => by
    obtain ⟨q1, q2⟩ := ok.lk a o (pin_of e (.inr h.1))
    exact ⟨⟨q2.resolve_left n, h.2.1, h.2.2⟩, q1⟩
  have t : ∀ {a o}, H0 a = some o → Im o → H a = some o := fun {a o} e n => (ok.lk a o (pin_of e (.inl n))).1
  refine ⟨fun a xs h e => m h e id, fun a kvs h e => ?_, fun a C dx fs h e => m h e id, fun a xs e => ?_, fun a xs e => e.imp (fun ⟨o, e⟩ => ⟨o, t e trivial⟩) id⟩
  · rcases e with e | ⟨o, e⟩
    · obtain ⟨q1, q2⟩ := m h e id
      exact ⟨q1, .inl q2⟩
    · obtain ⟨q1, q2⟩ := m h e id
      exact ⟨q1, .inr ⟨o, q2⟩⟩
  · rcases e with e | ⟨o, e⟩
    · exact .inl (t e trivial)
    · exact .inr ⟨o, t e trivial⟩
structure ItS (G : Gb) (c : Fr) (J : It) (dp : Bool) (ds : List D) : Prop where
  go : ∀ {F en own σ H i d}, Ok G c F en own σ H → ds[i]? = some d → J.go i H ∧ ∀ x H', J.yld i H x H' → Same H H' ∧ R G (Av c (ow own) dp) H' d x
  stop : ∀ {F en own σ H}, Ok G c F en own σ H → J.stop ds.length H
abbrev EvI := En → Rs (List D)
def TIv (G : Gb) (W : WX) (F F' : List SF) (dp : Bool) (ev : EvI) : TI := fun σ H R => ∃ (c : Fr) (en : En) (own : Own), Ok G c F en own σ H ∧
  Mt G W c σ (ev en) fun ds => ∀ J H' own', Ok G c F' en own' σ H' → Same H H' → Sub (ow own) (ow own') H → ItS G (c.pin own' H') J dp ds → R J H'
theorem pi_imp {X : Cx} {tg e : Expr} {t t' : TI} (h : PI X tg e t) (m : ∀ σ H Q, t' σ H Q → t σ H Q) : PI X tg e t' := ⟨fun pins s σ H Q I q => h.run pins s σ H Q I (m σ H Q q)⟩
def itemsL : D → Option (List D)
  | .lst l => some l
  | .scr l => some (l.map .int)
  | _ => none
def itemsT : D → Option (List D)
  | .tup l => some l
  | _ => none
def iL (ev : EvE) : EvI := fun en => bnd (ev en) fun d => ofO (itemsL d)
def iT (ev : EvE) : EvI := fun en => bnd (ev en) fun d => ofO (itemsT d)
theorem scr_at {l : List Int} {i : Nat} {d : D} (h : (l.map D.int)[i]? = some d) : ∃ z, d = .int z ∧ (l.map V.int)[i]? = some (.int z) := by
  rw [List.getElem?_map] at h ⊢
  cases q : l[i]? with
  | none => rw [q] at h; cases h
  | some z => rw [q] at h; cases h; exact ⟨z, rfl, rfl⟩
theorem its_list {dp : Bool} {d : D} {ds : List D} {a : Addr} (h : R G (Av c (ow own0) dp) H0 d (.ref a)) (e : itemsL d = some ds) : (∃ xs, SqL G.K H0 a xs) ∧ ItS G (c.pin own0 H0) (Itl G.K a) dp ds := by
  cases d <;> first | (cases e; done) | skip
  · rename_i l
    obtain rfl := Option.some.inj e
    clear e
    refine ⟨by obtain ⟨a', xs, e, _, h1, _⟩ := h; cases e; exact ⟨xs, SqL.of h1⟩, fun {F en own σ H i d} ok hd => ?_, fun {F en own σ H} ok => ?_⟩
    · obtain ⟨a', xs, e, _, h1, r⟩ := R.up (Up.pin ok) _ h
      cases e
      obtain ⟨x, hx, rx⟩ := r.get hd
      refine ⟨⟨xs, x, SqL.of h1, hx⟩, fun y H' z => ?_⟩
      obtain ⟨rfl, z⟩ := z
      have := z xs (SqL.of h1)
      rw [hx] at this
      cases this
      exact ⟨Same.refl _, rx⟩
    · obtain ⟨a', xs, e, _, h1, r⟩ := R.up (Up.pin ok) _ h
      cases e
      exact ⟨xs, SqL.of h1, by rw [r.len]; exact Nat.le_refl _⟩
  · rename_i l
    obtain rfl := Option.some.inj e
    clear e
    refine ⟨by obtain ⟨a', e, h1⟩ := h; cases e; exact ⟨_, h1.sq⟩, fun {F en own σ H i d} ok hd => ?_, fun {F en own σ H} ok => ?_⟩
    · obtain ⟨a', e, h1⟩ := R.up (Up.pin ok) _ h
      cases e
      obtain ⟨z0, rfl, hz⟩ := scr_at hd
      refine ⟨⟨_, _, h1.sq, hz⟩, fun y H' z => ?_⟩
      obtain ⟨rfl, z⟩ := z
      have := z _ h1.sq
      rw [hz] at this
      cases this
      exact ⟨Same.refl _, rfl⟩
    · obtain ⟨a', e, h1⟩ := R.up (Up.pin ok) _ h
      cases e
      exact ⟨_, h1.sq, by simp⟩
theorem itemsL_ref {A : Addr → Prop} {d : D} {ds : List D} {v : V} (h : R G A H d v) (e : itemsL d = some ds) : ∃ a, v = .ref a := by
  cases d <;> first | cases e | skip
  · obtain ⟨a, _, e, _⟩ := h; exact ⟨a, e⟩
  · obtain ⟨a, e, _⟩ := h; exact ⟨a, e⟩
theorem di_list (g : Gd G N sc k W X) {tg e : Expr} {ev : EvE} (he : PE X e (TEv G W F F1 f ev)) (hn : f.nb = true := by rfl) : PI X tg e (TIv G W F F1 f.dp (iL ev)) := by
  refine pi_imp (pi_list he) ?_
  rw [g.K]
  rintro σ H Q ⟨c, en, own, ok, m⟩
  refine ⟨c, en, own, ok, m.bnd.imp fun d hd0 q v H1 own1 ok1 s1 b1 r1 => ?_⟩
  clear hd0
  obtain ⟨ds, ed, q⟩ := q.ofO
  obtain ⟨own2, ok2, sb, r2⟩ := r1.share ok1 hn
  obtain ⟨a, rfl⟩ := itemsL_ref r2 ed
  obtain ⟨h1, h2⟩ := its_list r2 ed
  exact ⟨a, rfl, h1, q _ H1 own2 ok2 s1 (fun a z => b1 a (sb a z)) h2⟩
theorem di_tup (g : Gd G N sc k W X) {tg e : Expr} {ev : EvE} (he : PE X e (TEv G W F F1 f ev)) (hn : f.nb = true := by rfl) : PI X tg e (TIv G W F F1 f.dp (iT ev)) := by
  refine pi_imp (pi_tup he) ?_
  rw [g.K]
  rintro σ H Q ⟨c, en, own, ok, m⟩
  refine ⟨c, en, own, ok, m.bnd.imp fun d hd0 q v H1 own1 ok1 s1 b1 r1 => ?_⟩
  clear hd0
  obtain ⟨ds, ed, q⟩ := q.ofO
  obtain ⟨own2, ok2, sb, r2⟩ := r1.share ok1 hn
  cases d <;> first | cases ed | skip
  obtain ⟨a, xs, e, h1, r⟩ := id r2
  subst e
  refine ⟨a, rfl, ⟨xs, h1⟩, q _ H1 own2 ok2 s1 (fun a z => b1 a (sb a z)) ⟨fun {F en own σ H i d} ok hd => ?_, fun {F en own σ H} ok => ?_⟩⟩
  · obtain ⟨a', xs, e, h1, r⟩ := R.up (Up.pin ok) _ r2
    cases e
    obtain ⟨x, hx, rx⟩ := r.get hd
    refine ⟨⟨xs, x, h1, hx⟩, fun y H' z => ?_⟩
    obtain ⟨rfl, z⟩ := z
    have := z xs h1
    rw [hx] at this
    cases this
    exact ⟨Same.refl _, rx⟩
  · obtain ⟨a', xs, e, h1, r⟩ := R.up (Up.pin ok) _ r2
    cases e
    exact ⟨xs, h1, by rw [r.len]; exact Nat.le_refl _⟩
def irng (lo : Int) (n : Nat) : List D := (List.range n).map fun i : Nat => .int (lo + i)
def bd62 (i : Int) : Bool := decide (-(2 ^ 62) ≤ i) && decide (i < 2 ^ 62)
theorem bd62_of {i : Int} (h : bd62 i = true) : -(2 ^ 62) ≤ i ∧ i < 2 ^ 62 := by simpa [bd62] using h
theorem its_rng {lo : Int} {n : Nat} {dp : Bool} : ItS G c (Itr lo n) dp (irng lo n) := by
  refine ⟨fun {F en own σ H i d} ok hd => ?_, fun {F en own σ H} ok => ?_⟩
  · unfold irng at hd
    rw [List.getElem?_map] at hd
    by_cases hi : i < n
    · rw [List.getElem?_range hi] at hd
      cases hd
      exact ⟨hi, fun x H' z => by obtain ⟨rfl, rfl⟩ := z; exact ⟨Same.refl _, rfl⟩⟩
    · rw [List.getElem?_eq_none (by simpa using hi)] at hd
      cases hd
  · show n ≤ _
    simp [irng]
def oRng : List D → Option (List D)
  | [.int j] => if bd62 j = true then some (irng 0 j.toNat) else none
  | [.int i, .int j] => if bd62 i = true ∧ bd62 j = true then some (irng i (j - i).toNat) else none
  | _ => none
def iRn (ea : En → Rs (List D)) : EvI := fun en => bnd (ea en) fun ds => ofO (oRng ds)
theorem di_range1 (g : Gd G N sc k W X) {tg a : Expr} {p pos : Pos} {ea : En → Rs (List D)} (hm : G.mg "range" = none) (ha : PA X [a] (TAv G W F F1 [f] ea)) (hg : glbB sc "range" = true := by rfl) (hs : starEach [a] X.env = [(false, eval a X.env)] := by rfl) :
    PI X tg (.Call (.Name "range" p) [a] [] pos) (TIv G W F F1 true (iRn ea)) := by
  refine pi_imp (pi_range1 (glbB_gl hg g.sc) (by rw [g.mg]; exact hm) ha hs) ?_
  rintro σ H Q ⟨c, en, own, ok, m⟩
  refine ⟨c, en, own, ok, m.bnd.imp fun ds hd0 q vs H1 own1 ok1 s1 b1 r1 => ?_⟩
  clear hd0
  obtain ⟨its, e, q⟩ := q.ofO
  obtain ⟨d, r, v, t, rfl, rfl, h1, h2⟩ := r1
  obtain ⟨rfl, rfl⟩ := h2
  cases d <;> first | (cases e; done) | skip
  rename_i j
  simp only [oRng] at e
  split at e
  · rename_i hb
    obtain rfl := Option.some.inj e
    obtain ⟨z1, z2⟩ := bd62_of hb
    exact ⟨j, by rw [show v = .int j from h1.b], z1, z2, q _ H1 own1 ok1 s1 b1 its_rng⟩
  · cases e
theorem di_range2 (g : Gd G N sc k W X) {tg a b : Expr} {p pos : Pos} {ea : En → Rs (List D)} (hm : G.mg "range" = none) (ha : PA X [a, b] (TAv G W F F1 [f, f2] ea)) (hg : glbB sc "range" = true := by rfl) (hs : starEach [a, b] X.env = [(false, eval a X.env), (false, eval b X.env)] := by rfl) (hs2 : starEach [b] X.env = [(false, eval b X.env)] := by rfl) :
    PI X tg (.Call (.Name "range" p) [a, b] [] pos) (TIv G W F F1 true (iRn ea)) := by
  refine pi_imp (pi_range2 (glbB_gl hg g.sc) (by rw [g.mg]; exact hm) ha hs hs2) ?_
  rintro σ H Q ⟨c, en, own, ok, m⟩
  refine ⟨c, en, own, ok, m.bnd.imp fun ds hd0 q vs H1 own1 ok1 s1 b1 r1 => ?_⟩
  clear hd0
  obtain ⟨its, e, q⟩ := q.ofO
  obtain ⟨d, r, v, t, rfl, rfl, h1, d2, r2, v2, t2, rfl, rfl, h2, h3⟩ := r1
  obtain ⟨rfl, rfl⟩ := h3
  cases d <;> first | (cases e; done) | skip
  cases d2 <;> first | (cases e; done) | skip
  rename_i i j
  simp only [oRng] at e
  split at e
  · rename_i hb
    obtain rfl := Option.some.inj e
    obtain ⟨z1, z2⟩ := bd62_of hb.1
    obtain ⟨z3, z4⟩ := bd62_of hb.2
    exact ⟨i, j, by rw [show v = .int i from h1.b, show v2 = .int j from h2.b], ⟨z1, z2, z3, z4⟩, q _ H1 own1 ok1 s1 b1 its_rng⟩
  · cases e
structure TgO (G : Gb) (X : Cx) (tg : Expr) (gg : TG) (F F2 : List SF) (dp : Bool) (is : List Nat) (set : En → D → Option En) : Prop where
  pg : PG X tg gg
  ok : ∀ {c en own σ H d v en' Q}, Ok G c F en own σ H → R G (Av c (ow own) dp) H d v → set en d = some en' → (∀ σ' own', Ok G c F2 en' own' σ' H → (∀ a, ow own' a → ow own a) → (σ'.length = σ.length ∧ ∀ j, j ∉ is → σ'[j]? = σ[j]?) → Q σ' H) → gg v σ H Q
def set1 (i : Nat) (en : En) (d : D) : Option En := some (en.set i (some d))
def setT (is : List Nat) (en : En) : D → Option En
  | .tup ds => if ds.length = is.length then some (setAll en is ds) else none
  | _ => none
theorem tg_name (g : Gv G N sc X) (hfn : ∀ x, X.fn x = true) (i : Nat) {x : Str} {pos : Pos} {dp : Bool} (hN : N[i]? = some x := by rfl) (hx : locB sc x = true := by rfl) (hz : zB F i = true := by rfl) : TgO G X (.Name x pos) (gName i) F (F.set i (.s dp)) dp [i] (set1 i) := by
  refine ⟨pg_name (by rw [g.nN]; exact g.nd) (by rw [g.nN]; exact hN) (locB_loc hx g.sc) (.inl (hfn x)), fun {c en own σ H d v en' Q} ok r e q => ?_⟩
  cases e
  obtain ⟨h1, h2⟩ := zB_of hz
  obtain ⟨own2, ok2, sb⟩ := ok.put (f := .sh dp) h1 h2 r rfl
  exact q _ own2 ok2 sb ⟨by simp, fun j hj => List.getElem?_set_ne (fun e => hj (by simp [e]))⟩
theorem tg_nameB (g : Gv G N sc X) (i : Nat) {x : Str} {pos : Pos} {dp : Bool} (hN : N[i]? = some x := by rfl) (hx : plainLocB sc x = true := by rfl) (hz : zB F i = true := by rfl) : TgO G X (.Name x pos) (gName i) F (F.set i (.s dp)) dp [i] (set1 i) := by
  refine ⟨pg_name (by rw [g.nN]; exact g.nd) (by rw [g.nN]; exact hN) (.inl (plainLocB_loc hx g.sc)) (.inr (plainLocB_loc hx g.sc)), fun {c en own σ H d v en' Q} ok r e q => ?_⟩
  cases e
  obtain ⟨h1, h2⟩ := zB_of hz
  obtain ⟨own2, ok2, sb⟩ := ok.put (f := .sh dp) h1 h2 r rfl
  exact q _ own2 ok2 sb ⟨by simp, fun j hj => List.getElem?_set_ne (fun e => hj (by simp [e]))⟩
theorem names_core2 {dp : Bool} : ∀ {is : List Nat} {es : List Expr} {F : List SF} {en : En} {own : Own} {σ : L2.St} {ds : List D} {vs : List V} {Q : L2.St → Hp → Prop}, tgB N sc F is es = true → Ok G c F en own σ H → RL G (Av c (ow own) dp) H ds vs → ds.length = is.length →
    (∀ σ' own', Ok G c (setF F (.s dp) is) (setAll en is ds) own' σ' H → (∀ a, ow own' a → ow own a) → (σ'.length = σ.length ∧ ∀ j, j ∉ is → σ'[j]? = σ[j]?) → Q σ' H) → gNames is vs σ H Q
  | [], [], F, en, own, σ, ds, vs, Q, _, ok, r, hl, q => by
    cases ds with
    | nil => exact ⟨r, q σ own ok (fun _ h => h) ⟨rfl, fun _ _ => rfl⟩⟩
    | cons _ _ => cases hl
  | i :: is, .Name x p :: es, F, en, own, σ, ds, vs, Q, h, ok, r, hl, q => by
    cases ds with
    | nil => cases hl
    | cons d ds =>
      obtain ⟨v, t, e, r1, r2⟩ := r
      simp only [tgB, Bool.and_eq_true] at h
      obtain ⟨h1, h2⟩ := zB_of h.1.2
      obtain ⟨own2, ok2, sb⟩ := ok.put (f := .sh dp) h1 h2 r1 rfl
      exact ⟨v, t, e, names_core2 (tgB_set (f := .s dp) id h.2) ok2 (RL.up (Up.sub sb (by cases dp <;> rfl)) _ r2) (Nat.succ.inj hl) fun σ' own' ok' sb' z => q σ' own' ok' (fun a z => sb a (sb' a z)) ⟨by rw [z.1]; simp, fun j hj => by
        rw [z.2 j (fun h => hj (List.mem_cons_of_mem _ h))]
        exact List.getElem?_set_ne (fun e => hj (by simp [e]))⟩⟩
  | [], e :: es, _, _, _, _, _, _, _, h, _, _, _, _ => by cases e <;> cases h
  | i :: is, [], _, _, _, _, _, _, _, h, _, _, _, _ => by cases h
theorem tg_tup (g : Gd G N sc k W X) (hfn : ∀ x, X.fn x = true) (is : List Nat) {es : List Expr} {n : Nat} {tp : Pos} {dp : Bool} (ht : tgB N sc F is es = true := by rfl) : TgO G X (.Tuple es n tp) (gTup G.K is.length (gNames is)) F (setF F (.s dp) is) dp is (setT is) := by
  obtain ⟨h1, h2, h3⟩ := dg_names g.nN g.nd g.sc (fun x _ => .inl (hfn x)) ht
  refine ⟨by rw [← g.K]; exact pg_tup (n := is.length) g.calm h1 h2 h3, fun {c en own σ H d v en' Q} ok r e q => ?_⟩
  cases d <;> first | (cases e; done) | skip
  rename_i ds
  simp only [setT] at e
  split at e
  · rename_i hl
    cases e
    obtain ⟨a, xs, rfl, hq, rl⟩ := r
    exact ⟨a, xs, rfl, hq, by rw [rl.len]; exact hl, names_core2 ht ok rl hl q⟩
  · cases e
def evFor (set : En → D → Option En) (b : EvS) : List D → En → Rs Fl
  | [], en => .ok (.nx en)
  | d :: ds, en => bnd (ofO (set en d)) fun en1 => bnd (b en1) fun fl => match fl with
    | .nx en2 => evFor set b ds en2
    | .ct en2 => evFor set b ds en2
    | .rt v => .ok (.rt v)
def sFor (ev : EvI) (set : En → D → Option En) (b : EvS) : EvS := fun en => bnd (ev en) fun ds => evFor set b ds en
theorem ds_for (g : Gs G N sc k S.W X) {tg iter : Expr} {body : List Stmt} {pos : Pos} {gg : TG} {dp : Bool} {evI : EvI} {set : En → D → Option En} {eb : EvS} (hi : PI X tg iter (TIv G S.W F F1 dp evI)) {is : List Nat} (ht : TgO G X tg gg Fh F2 dp is set) (hb : PSs X body (TSv G { S with Fc := Fh } F2 Fh eb)) (hw : wkL F1 Fh = true := by rfl)
    (hs : ∀ x, foldedSetIterable iter X.env x = pure x := by intro _; rfl) : PS X (.For tg iter body [] pos) (TSv G S F Fh (sFor evI set eb)) := by
  refine ps_imp (ps_for g.g.po g.g.calm hi ht.pg hb hs) ?_
  rintro D σ H ⟨c, en, own, ok, m⟩
  refine ⟨c, en, own, ok, m.bnd.e.imp fun ds _ q J H1 own1 ok1 s1 b1 its => ?_⟩
  have hlk := ok1.lk
  have okp := ok1.pin
  obtain ⟨own2, ok2, sb, _⟩ := okp.weak hw
  refine ⟨fun i m σ H => m = ds.length - i ∧ i ≤ ds.length ∧ ∃ en own, Ok G (c.pin own1 H1) Fh en own σ H ∧ MtS G S.W c (evFor set eb (ds.drop i) en) (Aft G S c Fh D), ⟨_, rfl, Nat.zero_le _, en, own2, ok2, q⟩, ?_⟩
  rintro i m σ H ⟨rfl, hi, en, own, ok, q⟩
  by_cases hlt : i < ds.length
  · have hd : ds[i]? = some ds[i] := List.getElem?_eq_getElem hlt
    obtain ⟨hgo, hy⟩ := its.go ok hd
    rw [List.drop_eq_getElem_cons hlt] at q
    obtain ⟨en1, e1, q⟩ := MtS.ofO (MtS.bnd q)
    refine .inr ⟨hgo, fun σ' H' => ∃ en own, Ok G (c.pin own1 H1) Fh en own σ' H' ∧ MtS G S.W c (evFor set eb (ds.drop (i + 1)) en) (Aft G S c Fh D), fun σ' H' q' => ⟨_, by omega, rfl, hlt, q'⟩, fun x H' y => ?_⟩
    obtain ⟨sm, r⟩ := hy x H' y
    refine ht.ok (ok.grow sm) r e1 fun σ2 own2 ok2 _ _ => ⟨c.pin own1 H1, en1, own2, ok2, (MtS.bnd q).imp fun fl _ q => ?_⟩
    cases fl with
    | nx en2 => exact fun σ' H' own' ok' => ⟨en2, own', ok', q⟩
    | ct en2 => exact fun σ' H' own' ok' => ⟨en2, own', ok', q⟩
    | rt v => exact fun v' H' sm lkk rr => q v' H' sm (fun a o e => lkk a o (pin_of (hlk a o e).1 (hlk a o e).2)) rr
  · have e : i = ds.length := by omega
    subst e
    rw [List.drop_length] at q
    exact .inl ⟨its.stop ok, q σ H own (ok.unpin hlk)⟩
end
end Pi
namespace Pi
open PySem PySem.Spec PyProof.Rows L2
def F0 (n m : Nat) : List SF := List.replicate n (.s false) ++ List.replicate m .n
def endR : Rs Fl → Rs D
  | .ok (.nx _) => .ok .non
  | .ok (.rt d) => .ok d
  | .ok (.ct _) => .error .stuck
  | .error e => .error e
def runF (m : Nat) (st : EvS) (ds : List D) : Rs D := endR (st (ds.map some ++ List.replicate m none))
def Fr.new (H : Hp) (A0 : Addr → Prop) : Fr := ⟨H, A0, fun _ => False, fun _ => none, fun _ => none⟩
def Own.new : Own := ⟨fun _ => [], fun _ => False⟩
section
variable {G : Gb} {H : Hp} {A0 : Addr → Prop}
theorem start_ok {n m : Nat} {N : List Str} {ds : List D} {vs : List V} (hN : N.length = n + m) (hv : vs.length = n) (r : RL G A0 H ds vs) : Ok G (Fr.new H A0) (F0 n m) (ds.map some ++ List.replicate m none) Own.new (L2.start N vs) H := by
  have hd : ds.length = n := by rw [← r.len]; exact hv
  have now : ∀ a, ¬ ow Own.new a := fun a h => by
    rcases h with ⟨i, h⟩ | h
    · cases h
    · exact h
  have hl : (L2.start N vs).length = n + m := by
    unfold L2.start
    rw [List.length_append, List.length_map, List.length_replicate, hN, hv]
    omega
  refine { lF := by rw [hl]; simp [F0], lE := by rw [hl]; simp [hd], same := fun b o _ e => e, tr := fun a h => False.elim h, dj := fun i j a h _ => (nomatch h), dt := fun i a h => (nomatch h), nt := fun a h => False.elim h, nw := fun i a h => (nomatch h), sl := fun i => ?_, lk := fun a o h => (nomatch h) }
  unfold Slt
  by_cases hi : i < n
  · have e1 : (F0 n m)[i]? = some (.s false) := by
      unfold F0
      rw [List.getElem?_append_left (by simpa using hi), List.getElem?_replicate, if_pos hi]
    obtain ⟨d, hd'⟩ : ∃ d, ds[i]? = some d := ⟨ds[i]'(by omega), List.getElem?_eq_getElem (by omega)⟩
    obtain ⟨x, hx, rx⟩ := r.get hd'
    have e2 : (ds.map some ++ List.replicate m none)[i]? = some (some d) := by
      rw [List.getElem?_append_left (by simp; omega), List.getElem?_map, hd']
      rfl
    rw [e1, e2]
    refine ⟨x, ?_, R.up (Up.same (Same.refl H) fun a h => ⟨now a, fun z => (nomatch z), .inr h⟩) _ rx⟩
    unfold L2.start
    rw [List.getElem?_append_left (by simp; omega), List.getElem?_map, hx]
    rfl
  · have e1 : (F0 n m)[i]? = some .n ∨ (F0 n m)[i]? = none := by
      unfold F0
      rw [List.getElem?_append_right (by simp; omega), List.getElem?_replicate]
      split
      · exact .inl rfl
      · exact .inr rfl
    rcases e1 with e | e <;> rw [e] <;> simp
theorem gs_of {N : List Str} {sc : Scope} {k : Nat} {qual : Str} {f : Addr} {cdv : Value} {A : Around} {outer : List Env} {s : Shared} {E : XK} (hN : N.Nodup) (hk : sc.kind = .function) (hr : Room k (A.deeper (envOfC qual sc s.heap.objs.size f cdv))) :
    Gs G N sc k (fun cls d _ H => E cls d H) (cxOf (L2.CX G.P G.w) G.P G.w G.K G.mg G.base N qual sc f cdv A outer s H E) :=
  ⟨{ prog := rfl, w := rfl, K := rfl, mg := rfl, base := rfl, nN := rfl, nd := hN, sc := rfl, un := hr.units, calm := rfl, room := hr, tk := takes_of rfl rfl rfl rfl, po := passes_of rfl }, fun _ => rfl, hk, rfl, rfl⟩
theorem fn_ok {x qual : Str} {params : Arguments} {body : List Stmt} {sc : Scope} {dvs : List V} {kws : List (Str × V)} {f : Addr} {fd : FuncData} {N ps : List Str} {k n m : Nat} {md : Bool} {st : EvS} {Fo : List SF} (F : FunD G.K x qual params body sc dvs kws f fd) (S : FnScope N ps sc) (hp : ps.length = n) (hN : N.length = n + m)
    (hb : ∀ (X : Cx) (W : WX), Gs G N sc k W X → PSs X body (TSv G ⟨md, W, []⟩ (F0 n m) Fo st)) : FnOk G.P G.w G.K G.mg G.base (L2.CX G.P G.w) (k + 1) f fd ps (spF G md n (runF m st)) := by
  refine F.ok S (fun vs H Q E h => by rw [hp]; exact h.1) fun cdv A outer s H vs Q E hr h => ⟨_, hb _ _ (gs_of S.nd S.kind hr), ?_⟩
  obtain ⟨hv, ds, A0, r, q⟩ := h
  refine ⟨Fr.new H A0, _, Own.new, start_ok hN hv r, ?_⟩
  unfold runF at q
  revert q
  cases e : st (ds.map some ++ List.replicate m none) with
  | ok fl =>
    cases fl with
    | nx en =>
      intro q σ' H' own' ok'
      refine q .non H' (fun b o z => ok'.same b o id z) ?_
      cases md with
      | true => exact ⟨[], ⟨rfl, rfl⟩, fun a h => by cases h⟩
      | false => exact rfl
    | rt d =>
      intro q v H' sm _ rr
      exact q v H' (fun b o z => sm b o id z) rr
    | ct en => exact fun q => q.elim
  | error er =>
    cases er with
    | stuck => exact fun q => q.elim
    | raise e => exact fun q σ' H' sm => q H' fun b o z => sm b o id z
theorem fn_cal {x qual : Str} {params : Arguments} {body : List Stmt} {sc : Scope} {kws : List (Str × V)} {f : Addr} {fd : FuncData} {N ps : List Str} {k n m : Nat} {md : Bool} {st : EvS} {Fo : List SF} (F : FunD G.K x qual params body sc [] kws f fd) (hg : G.mg x = some (.ref f)) (S : FnScope N ps sc) (hp : ps.length = n) (hN : N.length = n + m)
    (hbd : Binds G.K fd ps [])
    (hb : ∀ (X : Cx) (W : WX), Gs G N sc k W X → PSs X body (TSv G ⟨md, W, []⟩ (F0 n m) Fo st)) : Cal G (k + 1) x md n (runF m st) :=
  ⟨f, fd, ps, fn_ok F S hp hN hb, hg, F.kp, hbd⟩
end
inductive Cl where
  | own (x : Str) | ty (n : String)
  deriving DecidableEq
def Cl.v (G : Gb) : Cl → V
  | .own x => .ref (G.ga x)
  | .ty n => .ty n
def Cl.u (G : Gb) : Cl → Value
  | .own x => .ref (G.ga x)
  | .ty n => .type n
def Cl.nm : Cl → Str
  | .own x => x
  | .ty n => Str.ofString n
def isxS (x : Str) : Cl → Bool
  | .own y => decide (y = x) || decide (y = "ShareError")
  | .ty _ => true
def xnm (xs : List Str) (e : Nat) : Str := xs.getD (min e (xs.length - 1)) ""
structure Xk (G : Gb) (xs : List Str) (cs : List Cl) : Prop where
  ex : ∀ e, ExcC G.K (G.xa e)
  kit : ∀ e c, c ∈ cs → PySem.W.kitOne G.K (.ref (G.xa e)) (c.u G) = some (isxS (xnm xs e) c)
  exm : ∀ e c, c ∈ cs → PySem.W.exmOne G.K (.ref (G.xa e)) (c.u G) = some (isxS (xnm xs e) c)
  gl : ∀ x, Cl.own x ∈ cs → G.mg x = some (.ref (G.ga x))
  ty : ∀ n, Cl.ty n ∈ cs → G.mg (Str.ofString n) = none ∧ bootBuiltins (Str.ofString n) = some (.type n)
structure Xs (G : Gb) (X : Cx) (a : Addr) (e : Nat) : Prop where
  one : CallR X (.builtin "isinstance") (rIsE G.K (G.xa e) a)
  many : CallR X (.builtin "isinstance") (fun xs H Q => ∃ (tp : Addr) (cs : List V) (us : List Value) (b : Bool), xs = [.ref a, .ref tp] ∧ H tp = some (.tup cs) ∧ Paired ClsV cs us ∧ PySem.W.kitAny G.K (.ref (G.xa e)) us = some b ∧ Q (.bl b) H)
theorem call_isET {X : Cx} {a D : Addr} {oe : Obj} {pn : List (Addr × Obj)} (C : ExcC X.K D) (hz : Zc (.ref D) none oe) (hf : ∃ vs, oe.data = .fields vs) : CallR (X.suite a ((a, oe) :: pn)) (.builtin "isinstance")
    (fun xs H Q => ∃ (tp : Addr) (cs : List V) (us : List Value) (b : Bool), xs = [.ref a, .ref tp] ∧ H tp = some (.tup cs) ∧ Paired ClsV cs us ∧ PySem.W.kitAny X.K (.ref D) us = some b ∧ Q (.bl b) H) := by
  intro pins s σ H xs us Q I r h
  obtain ⟨tp, cs, ws, b, rfl, hT, k, e, q⟩ := h
  obtain ⟨u1, u2, rfl, r1, r2⟩ := vals2 r
  cases (show u2 = Value.ref tp from r2)
  cases (show u1 = Value.ref a from r1)
  obtain ⟨hget, _⟩ := I.pin (a, oe) (List.mem_append.mpr (.inl List.mem_cons_self))
  obtain ⟨vs, hv⟩ := hf
  have J : PySem.W.InstAt s.heap a oe D none := by
    obtain ⟨oc, od, oda, osl⟩ := oe
    obtain ⟨h1, h2⟩ := hz
    dsimp only at h1 h2 hv
    subst h1 h2 hv
    exact ⟨hget, rfl, rfl, trivial⟩
  obtain ⟨_, its, rv, o, h1, h2, n, h3⟩ := (show ObjOk X.prog X.w H s.heap tp (.tup cs) from I.hok tp _ hT)
  have e3 := ClsV.all k rv
  subst e3
  obtain ⟨oc, od, dt, sl⟩ := o
  simp only at h2 h3
  subst h2 h3
  exact PySem.W.kia_tup (PySem.W.handS_kitx_exc C.hg C.hk C.hs C.hd C.ha C.hn C.ht C.hm) I.kIn J h1 e (fun z => nomatch z) fun tk => ⟨.bl b, H, I.kept (t' := tk) fun _ _ z => z, rfl, q⟩
section
variable {G : Gb} {S : Se} {W : WX} {N : List Str} {sc : Scope} {k : Nat} {X : Cx} {F F1 F2 F3 Fh Fx : List SF} {Fo : List SF} {f f1 f2 : VF} {c : Fr} {en : En} {own own0 : Own} {σ : L2.St} {H H' H0 : Hp}
theorem Xs.of (hK : X.K = G.K) {e : Nat} (C : ExcC G.K (G.xa e)) {a : Addr} {oe : Obj} {pn : List (Addr × Obj)} (hz : Zc (.ref (G.xa e)) none oe) (hf : ∃ vs, oe.data = .fields vs) : Xs G (X.suite a ((a, oe) :: pn)) a e := by
  rw [← hK] at C
  refine ⟨?_, ?_⟩
  · rw [← hK]; exact call_isE C hz hf
  · rw [← hK]; exact call_isET C hz hf
def eIsE (xs : List Str) (e : Nat) (cs : List Cl) : EvE := fun _ => .ok (.bl (cs.any fun c => isxS (xnm xs e) c))
theorem Ok.xat (ok : Ok G c F en own σ H) {i : Nat} {a : Addr} (hf : F[i]? = some (.x a)) : σ[i]? = some (some (.ref a)) := by
  have h := ok.sl i
  unfold Slt at h
  rw [hf] at h
  simpa using h
theorem pe_cl (g : Gv G N sc X) {xs : List Str} {cs : List Cl} (K : Xk G xs cs) (y : Cl) {pos : Pos} (hy : y ∈ cs) (hg : glbB sc y.nm = true) (hn : nameB y.nm = true) : PE X (.Name y.nm pos) (tC (y.v G)) := by
  obtain ⟨h1, h2, h3⟩ := nameB_d hn
  cases y with
  | own x => exact pe_glob (glbB_gl hg g.sc) (by rw [g.mg]; exact K.gl x hy) (show RelV (.ref _) (.ref _) from rfl) h1
  | ty n => exact pe_bltn (glbB_gl hg g.sc) (by rw [g.mg]; exact (K.ty n hy).1) (K.ty n hy).2 rfl h3 h1
theorem Cl.cv (G : Gb) : ∀ y : Cl, ClsV (y.v G) (y.u G)
  | .own _ => .own _
  | .ty _ => .ty _
theorem de_isE (g : Gv G N sc X) {a : Addr} {e : Nat} (hs : Xs G X a e) {xs : List Str} {cs : List Cl} (K : Xk G xs cs) (i : Nat) (y : Cl) {x : Str} {p px pt pos : Pos} (hm : G.mg "isinstance" = none) (hy : y ∈ cs := by decide) (hN : N[i]? = some x := by rfl) (hv : visB sc x = true := by rfl) (hnm : nameB x = true := by rfl) (hf : F[i]? = some (.x a) := by rfl)
    (hx : glbB sc "isinstance" = true := by rfl) (hx2 : glbB sc y.nm = true := by rfl) (hn : nameB y.nm = true := by rfl)
    (he : starEach [.Name x px, .Name y.nm pt] X.env = [(false, eval (.Name x px) X.env), (false, eval (.Name y.nm pt) X.env)] := by rfl) : PE X (.Call (.Name "isinstance" p) [.Name x px, .Name y.nm pt] [] pos) (TEv G W F F (.uq true) (eIsE xs e [y])) := by
  obtain ⟨h1, h2, _⟩ := nameB_d hnm
  refine pe_imp (pe_callB hs.one (glbB_gl hx g.sc) (by rw [g.mg]; exact hm) (by decide +kernel) (pa_cons (pe_var (i := i) (by rw [g.nN]; exact hN) (visB_vis hv g.sc) h1 h2) (pa_cons (pe_cl g K y hy hx2 hn) pa_nil) (by rw [he]; rfl)) (by decide) (by decide) (by rw [he]; rfl) rfl) ?_
  rintro σ H Q ⟨c, en, own, ok, m⟩
  have hq : RV G c own H (.uq true) (.bl ([y].any fun c => isxS (xnm xs e) c)) (.bl (isxS (xnm xs e) y)) := by
    have : ([y].any fun c => isxS (xnm xs e) c) = isxS (xnm xs e) y := by simp
    rw [this]
    exact RV.mkB _
  refine ⟨.ref a, ok.xat hf, y.v G, y.u G, _, rfl, fun u r => (y.cv G).eq r, K.kit e y hy, ?_⟩
  exact m _ H own ok (Same.refl H) sub_refl hq
def TXv (G : Gb) (W : WX) (F : List SF) (bx : En → Rs Unit) : TS := fun D σ H => ∃ (c : Fr) (en : En) (own : Own), Ok G c F en own σ H ∧ (match bx en with
  | .ok _ => ∀ H', Same H H' → D.nx σ H'
  | .error (.raise e) => ∀ H', c.Sm H' → W (.ref (G.xa e)) none σ H'
  | .error .stuck => False)
def xEx (ev : EvE) : En → Rs Unit := fun en => bnd (ev en) fun _ => .ok ()
theorem dx_ex {e : Expr} {pos : Pos} {ev : EvE} (he : PE X e (TEv G W F F1 f ev)) (hs : swapsWith e none pos.line X.env = pure false := by rfl) : PSs X [.Expr e pos] (TXv G W F (xEx ev)) := by
  refine pss_imp (pss_one (ps_expr he hs)) ?_
  rintro D σ H ⟨c, en, own, ok, m⟩
  refine ⟨c, en, own, ok, ?_⟩
  unfold xEx at m
  cases q : ev en with
  | ok d =>
    rw [q] at m
    exact fun v H' own' _ s _ _ => m H' s
  | error er =>
    rw [q] at m
    cases er with
    | raise e => exact m
    | stuck => exact m
def Fsh (F : List SF) : List SF := F.map fun f => if f.rd = true then .s false else .n
theorem try_ok (ok : Ok G c F en own σ H) : Ok G (Fr.new H fun _ => True) (Fsh F) en Own.new σ H := by
  have now : ∀ a, ¬ ow Own.new a := fun a h => by
    rcases h with ⟨i, h⟩ | h
    · cases h
    · exact h
  have all : ∀ a, Av (Fr.new H fun _ => True) (ow Own.new) false a := fun a => ⟨now a, fun z => (nomatch z), .inr trivial⟩
  refine { lF := by rw [← ok.lF]; simp [Fsh], lE := ok.lE, same := fun b o _ e => e, tr := fun a h => False.elim h, dj := fun i j a h _ => (nomatch h), dt := fun i a h => (nomatch h), nt := fun a h => False.elim h, nw := fun i a h => (nomatch h), sl := fun i => ?_, lk := fun a o h => (nomatch h) }
  have h := ok.sl i
  unfold Slt at h ⊢
  unfold Fsh
  rw [List.getElem?_map]
  cases hF : F[i]? with
  | none => simp
  | some f =>
    rw [hF] at h
    cases f with
    | n => simp [SF.rd]
    | dt _ => simp [SF.rd]
    | ma _ => simp [SF.rd]
    | x a => simp [SF.rd]
    | s dp =>
      simp only [Option.map_some, SF.rd, if_pos]
      cases he : en[i]? with
      | none => simp
      | some od =>
        cases od with
        | none => simp
        | some d => rw [he] at h; obtain ⟨x, h1, h2⟩ := h; exact ⟨x, h1, R.an h2 fun a _ => all a⟩
    | o dp =>
      simp only [Option.map_some, SF.rd, if_pos]
      cases he : en[i]? with
      | none => simp
      | some od =>
        cases od with
        | none => simp
        | some d => rw [he] at h; obtain ⟨x, h1, h2⟩ := h; exact ⟨x, h1, RO.r h2 (fun a _ => all a) fun a _ => all a⟩
    | z =>
      simp only [Option.map_some, SF.rd, if_pos]
      cases he : en[i]? with
      | none => simp
      | some od =>
        cases od with
        | none => simp
        | some d => rw [he] at h; obtain ⟨x, h1, h2, _⟩ := h; exact ⟨x, h1, RO.r h2 (fun a _ => all a) fun a _ => all a⟩
theorem Ok.chg (ok : Ok G c F en own σ H) {i : Nat} {fl : SF} {v : Option V} (hz : ¬ SF.me F[i]?) (hfl : fl = .n ∨ ∃ a, fl = .x a ∧ v = some (.ref a)) : Ok G c (F.set i fl) (en.set i none) own (σ.set i v) H := by
  refine { lF := by simpa using ok.lF, lE := by simpa using ok.lE, same := ok.same, tr := ok.tr, dj := ok.dj, dt := ok.dt, nt := ok.nt, nw := fun j a h => ?_, sl := fun j => ?_, lk := ok.lk }
  · obtain ⟨q1, q2⟩ := ok.nw j a h
    refine ⟨q1, q2.imp id fun ⟨q3, q4⟩ => ⟨?_, q4⟩⟩
    have ne : i ≠ j := fun e => hz (by rw [e]; exact zf_me q3)
    exact zf_set ne q3
  · by_cases e : i = j
    · subst e
      unfold Slt
      by_cases hi : i < F.length
      · rw [List.getElem?_set_self hi]
        rcases hfl with rfl | ⟨a, rfl, rfl⟩
        · simp
        · exact List.getElem?_set_self (by rw [← ok.lF]; exact hi)
      · rw [List.getElem?_eq_none (by simpa using hi)]
        simp
    · have h := ok.sl j
      unfold Slt at h ⊢
      rw [List.getElem?_set_ne e, List.getElem?_set_ne e, List.getElem?_set_ne e]
      exact h
def sTry (i : Nat) (isC : Nat → Bool) (bx : En → Rs Unit) (hd : Nat → EvS) : EvS := fun en => match bx en with
  | .ok _ => .ok (.nx en)
  | .error (.raise e) => if isC e = true then (match hd e (en.set i none) with
    | .ok (.nx en') => .ok (.nx (en'.set i none))
    | .ok (.rt d) => .ok (.rt d)
    | _ => .error .stuck) else .error (.raise e)
  | .error .stuck => .error .stuck
theorem pss_ex {X : Cx} {body : List Stmt} {cls : Value} {d : Option Addr} {t : Nat → TS} {u : Nat → Value} (h : ∀ e, cls = u e → d = none → PSs X body (t e)) : PSs X body (fun D σ H => ∃ e, cls = u e ∧ d = none ∧ t e D σ H) := by
  refine ⟨fun pins s σ H D I q => ?_⟩
  obtain ⟨e, h1, h2, q⟩ := q
  exact (h e h1 h2).run pins s σ H D I q
theorem Gs.tr (g : Gs G N sc k W X) {W' : WX} {pn : List (Addr × Obj)} {xe : Value → Shared → Prop} (tk : Takes (X.tr pn xe) W') (po : PassesOwn (model X.prog X.w) X.A X.env xe) : Gs G N sc k W' (X.tr pn xe) :=
  ⟨{ prog := g.g.prog, w := g.g.w, K := g.g.K, mg := g.g.mg, base := g.g.base, nN := g.g.nN, nd := g.g.nd, sc := g.g.sc, un := g.g.un, calm := g.g.calm, room := g.g.room, tk := tk, po := po }, g.fn, g.kd, g.stk, g.frm⟩
theorem Gs.su (g : Gs G N sc k W X) {a : Addr} {pn : List (Addr × Obj)} : Gv G N sc (X.suite a pn) :=
  { prog := g.g.prog, w := g.g.w, K := g.g.K, mg := g.g.mg, base := g.g.base, nN := g.g.nN, nd := g.g.nd, sc := g.g.sc, un := g.g.un }
theorem ds_try (g : Gs G N sc k S.W X) {xs : List Str} {cs : List Cl} (K : Xk G xs cs) (i : Nat) (y : Cl) {n : Str} {np pos pos' : Pos} {body suite : List Stmt} {b₀ : Stmt} {bx : En → Rs Unit} {hd : Nat → EvS}
    (hb : ∀ (X' : Cx) (W' : WX), Gs G N sc k W' X' → PSs X' body (TXv G W' (Fsh F) bx))
    (hsu : ∀ (X' : Cx) (a : Addr) (e : Nat), Gv G N sc X' → (∀ x, X'.fn x = true) → Xs G X' a e → PSs X' (b₀ :: suite) (TSv G ⟨S.md, fun _ _ _ _ => False, []⟩ (F.set i (.x a)) (Fo.set i (.x a)) (hd e)))
    (hF : F[i]? = some .n := by rfl) (hFo : Fo[i]? = some .n := by rfl) (hw : wkL F Fo = true := by rfl) (hN : N[i]? = some n := by rfl) (hln : plainLocB sc n = true := by rfl) (hy : y ∈ cs := by decide) (hx2 : glbB sc y.nm = true := by rfl) (hn : nameB y.nm = true := by rfl) :
    PS X (.Try body [.ExceptHandler (some (.Name y.nm np)) (some n) (b₀ :: suite) pos'] [] [] pos) (TSv G S F Fo (sTry i (fun e => isxS (xnm xs e) y) bx hd)) := by
  obtain ⟨n1, n2, n3⟩ := nameB_d hn
  have nmz : Names X y.nm (y.u G) := by
    refine ⟨glbB_gl hx2 g.g.sc, n1, ?_⟩
    cases y with
    | own x => exact .inl (by rw [g.g.mg]; exact K.gl x hy)
    | ty m => exact .inr ⟨by rw [g.g.mg]; exact (K.ty m hy).1, (K.ty m hy).2, n3⟩
  refine ps_imp (ps_try_as (i := i) (c := y.u G) (tb := fun W => TXv G W (Fsh F) bx) (ts := fun a cls d D σ H => ∃ e, cls = .ref (G.xa e) ∧ d = none ∧ TSv G ⟨S.md, fun _ _ _ _ => False, []⟩ (F.set i (.x a)) (Fo.set i (.x a)) (hd e) D σ H) (Wout := S.W) g.stk g.frm (by rw [g.g.nN]; exact g.g.nd) (by rw [g.g.nN]; exact hN) (plainLocB_loc hln g.g.sc) nmz g.g.tk
    (fun W pn xe tk po => hb _ _ (g.tr tk po)) (fun a oe cls d pn hz hf => pss_ex fun e h1 h2 => ?_)) ?_
  · subst h1 h2
    exact hsu _ a e g.su g.fn (Xs.of g.g.K (K.ex e) hz hf)
  · rintro D σ H ⟨c, en, own, ok, m⟩
    refine ⟨Fr.new H fun _ => True, en, Own.new, try_ok ok, ?_⟩
    unfold sTry at m
    cases q : bx en with
    | ok u =>
      rw [q] at m
      intro H' s
      obtain ⟨own', ok', _⟩ := (ok.grow s).weak hw
      exact m σ H' own' ok'
    | error er =>
      rw [q] at m
      cases er with
      | stuck => exact m
      | raise e =>
        intro H' sm
        have s : Same H H' := fun b o z => sm b o id z
        refine ⟨isxS (xnm xs e) y, by rw [g.g.K]; exact K.exm e y hy, fun hb a na => ⟨e, rfl, rfl, c, en.set i none, own, ?_, ?_⟩, fun hb => ?_⟩
        · exact (ok.grow s).chg (by rw [hF]; exact id) (.inr ⟨a, rfl, rfl⟩)
        · have m2 : MtS G S.W c (match hd e (en.set i none) with
            | .ok (.nx en') => .ok (.nx (en'.set i none))
            | .ok (.rt d) => .ok (.rt d)
            | _ => .error .stuck) (Aft G S c Fo D) := by
            have m3 := m
            dsimp only at m3
            rw [if_pos hb] at m3
            exact m3
          cases q2 : hd e (en.set i none) with
          | error er => rw [q2] at m2; exact m2.elim
          | ok fl =>
            rw [q2] at m2
            cases fl with
            | ct en' => exact m2.elim
            | rt d => exact m2
            | nx en' =>
              intro σ' H'' own' ok'
              have hFi : i < Fo.length := (List.getElem?_eq_some_iff.mp hFo).1
              have := ok'.chg (i := i) (fl := .n) (v := none) (by rw [List.getElem?_set_self hFi]; exact id) (.inl rfl)
              rw [List.set_set, show Fo.set i .n = Fo by
                apply List.ext_getElem?
                intro j
                by_cases e : i = j
                · subst e; rw [List.getElem?_set_self hFi, hFo]
                · rw [List.getElem?_set_ne e]] at this
              exact m2 _ H'' own' this
        · have m3 := m
          dsimp only at m3
          rw [if_neg (by rw [hb]; decide)] at m3
          exact m3 σ H' fun b o nb z => s _ _ (ok.same b o nb z)
end
end Pi
namespace Pi
open PySem PySem.Spec PyProof.Rows L2 He
theorem walk_ofW {l : PySem.W.OpenLaw} {n k : Nat} {q : Program} {loose : List Str} {XP : (Str → Option Value) → Heap → Prop} {YP : World → Heap → Prop} {d : DefRec} {CX : World → CXT} {x : Str}
    (hn : l.most = some n) (hn2 : n ≤ sizeLine) (hdf : d.params.defaults = []) (hr : Room k callerA)
    (F : ∀ (w : World) (mg : Str → Option Value) (fa : Addr) (h : Heap), YP w h → h.Ns mainGlobals mg → mg d.name = some (.ref fa) →
      ∃ (K : PySem.W.Frag) (fd : FuncData) (sp : Sp), K.In h ∧ (∀ (s : Shared) (u : Value), BindsTo s fd ⟨[u], []⟩ [(x, u)]) ∧
        (∀ (H : Hp) (a : Addr) (ns : List Int), ns.length ≤ n → Only H → SqL K H a (ns.map V.int) → sp [.ref a] H (fun v _ => v = .bl true) fun _ _ _ => False) ∧
        ∀ base : Heap, K.In base → base.Ns mainGlobals mg → FnOk l.prog w K mg base (CX w) k fa fd [x] sp)
    (hCX : ∀ (w : World) (H : Hp) (s : Shared) (e : Value) (s' : Shared), CX w [] H s (fun _ _ _ => False) e s' → False) :
    PySem.W.WalkO q loose XP YP l.row.toRowW d [] (fun f vs => PySem.call f vs) := by
  refine Att.attach_call hn hdf fun w s₀ s₁ mg mb fa o pm cd doc a vs ns G Y ho hd hcd hmg hobj hints hlen hg => ?_
  obtain ⟨K, fd, sp, KX, hb, hsp, hF⟩ := F w mg fa _ Y G.T.g hmg
  exact law_call KX G.T.g G.T.b G.T.builtins G.T.nolimit hg hobj hints (Nat.le_trans hlen hn2) hr hF hb (fun H hO hS => hsp H a ns hlen hO hS) fun H e s' => hCX w H s₁ e s'
theorem noCX {P : Program} {w : World} {H : Hp} {s : Shared} {e : Value} {s' : Shared} (h : L2.CX P w [] H s (fun _ _ _ => False) e s') : False := by
  obtain ⟨a, B, H', cls, d, _, _, _, _, _, _, _, z⟩ := h
  exact z
theorem says_facts {fa : List Fa} {fn : List DefD} {K : PySem.W.Frag} (c : SaysD fa fn K) {f : Fa} (h : f ∈ fa) : f.ok K = true := by
  obtain ⟨i, hi, e⟩ := List.mem_iff_getElem.mp h
  exact c.fact i (f := f) (by rw [List.getElem?_eq_getElem hi, e])
def Cl.uK (K : PySem.W.Frag) : Cl → Value
  | .own x => .ref (ga K x)
  | .ty n => .type n
def excCB (K : PySem.W.Frag) (D : Addr) : Bool :=
  decide (PySem.W.findIn K (.ref D) "__getattribute__" = some (some (.builtin "BaseException.__getattribute__"))) && (decide (PySem.W.findIn K (.ref D) "__getattr__" = some none) && (decide (PySem.W.subIn K (.ref D) (.type "BaseException") = some true) && (PySem.W.hasDictIn K D &&
    (decide (PySem.W.findIn K (.ref D) "__class__" = some (some (.builtin "object.__class__"))) && (decide (PySem.W.specialIn K (.builtin "object.__class__") "__get__" = some (some (.builtin "getset_descriptor.__get__"))) && (decide (PySem.W.takesIn K (.builtin "object.__class__") = some true) && decide (PySem.W.mroIn K D (.type "object") = some true)))))))
theorem excCB_ok {K : PySem.W.Frag} {D : Addr} (h : excCB K D = true) : ExcC K D := by
  simp only [excCB, Bool.and_eq_true, decide_eq_true_eq] at h
  obtain ⟨h1, h2, h3, h4, h5, h6, h7, h8⟩ := h
  exact ⟨h1, h2, h3, h4, h5, h6, h7, h8⟩
def clB1 (K : PySem.W.Frag) (xs : List Str) (e : Nat) (c : Cl) : Bool :=
  decide (PySem.W.kitOne K (.ref (ga K (xnm xs e))) (c.uK K) = some (isxS (xnm xs e) c)) && decide (PySem.W.exmOne K (.ref (ga K (xnm xs e))) (c.uK K) = some (isxS (xnm xs e) c))
def xkB (xs : List Str) (cs : List Cl) (K : PySem.W.Frag) : Bool :=
  (List.range (xs.length)).all fun e => excCB K (ga K (xnm xs e)) && cs.all fun c => clB1 K xs e c
def clFa : Cl → Fa
  | .own x => .glo x
  | .ty n => .free (Str.ofString n)
theorem xnm_min {xs : List Str} (h : xs ≠ []) (e : Nat) : ∃ e', e' < xs.length ∧ xnm xs e = xnm xs e' := by
  have hp : 0 < xs.length := List.length_pos_iff.mpr h
  refine ⟨min e (xs.length - 1), by omega, ?_⟩
  unfold xnm
  have : min (min e (xs.length - 1)) (xs.length - 1) = min e (xs.length - 1) := by omega
  rw [this]
def gOf (P : Program) (w : World) (K : PySem.W.Frag) (mg : Str → Option Value) (base : Heap) (cn : List (Str × List Str)) (xs : List Str) : Gb where
  P := P
  w := w
  K := K
  mg := mg
  base := base
  ca := fun i => ga K ((cn.getD i ("", [])).1)
  cf := fun i => (cn.getD i ("", [])).2
  xa := fun e => ga K (xnm xs e)
  ga := ga K
section
variable {P : Program} {w : World} {K : PySem.W.Frag} {mg : Str → Option Value} {base h : Heap} {cn : List (Str × List Str)} {xs : List Str} {cs : List Cl}
theorem xk_of (X : K.In h) (Gn : h.Ns mainGlobals mg) (hx : xs ≠ []) (hk : xkB xs cs K = true) (hf : ∀ c ∈ cs, (clFa c).ok K = true) (hb : ∀ n, Cl.ty n ∈ cs → bootBuiltins (Str.ofString n) = some (.type n)) : Xk (gOf P w K mg base cn xs) xs cs := by
  have key : ∀ e, excCB K (ga K (xnm xs e)) = true ∧ ∀ c ∈ cs, clB1 K xs e c = true := fun e => by
    obtain ⟨e', he, q⟩ := xnm_min hx e
    have := List.all_eq_true.mp hk e' (by simpa using he)
    simp only [Bool.and_eq_true] at this
    refine ⟨by rw [q]; exact this.1, fun c hc => ?_⟩
    have z := List.all_eq_true.mp this.2 c hc
    unfold clB1 at z ⊢
    rw [q]
    exact z
  have u : ∀ c : Cl, c.u (gOf P w K mg base cn xs) = c.uK K := fun c => by cases c <;> rfl
  refine ⟨fun e => excCB_ok (key e).1, fun e c hc => ?_, fun e c hc => ?_, fun x hc => ?_, fun n hc => ⟨?_, hb n hc⟩⟩
  · have z := (key e).2 c hc
    simp only [clB1, Bool.and_eq_true, decide_eq_true_eq] at z
    rw [u]; exact z.1
  · have z := (key e).2 c hc
    simp only [clB1, Bool.and_eq_true, decide_eq_true_eq] at z
    rw [u]; exact z.2
  · exact glo_ok X Gn (hf _ hc)
  · exact free_ok X Gn (hf _ hc)
theorem glo_int (X : K.In h) (Gn : h.Ns mainGlobals mg) {x : Str} {i : Int} (c : (Fa.int x i).ok K = true) : Glo (gOf P w K mg base cn xs) x (.int i) := by
  obtain ⟨t, e⟩ := int_ok X Gn c
  exact ⟨.int i, .int i t, e, ⟨t, rfl⟩, fun _ _ => rfl⟩
theorem xcl_of (X : K.In h) (Gn : h.Ns mainGlobals mg) (e : Nat) {x : Str} (hx : xnm xs e = x) (h1 : (Fa.glo x).ok K = true) (h2 : (Fa.exc x).ok K = true) : Xcl (gOf P w K mg base cn xs) x e := by
  subst hx
  obtain ⟨q1, q2, q3, q4⟩ := exc_ok h2
  exact ⟨glo_ok X Gn h1, q1, q2, q3, q4⟩
end
def spLaw (K : PySem.W.Frag) (n : Nat) : Sp := fun vs H Q _ => ∃ (a : Addr) (ns : List Int), vs = [.ref a] ∧ ns.length ≤ n ∧ SqF K H a (ns.map V.int) ∧ ∀ H', Q (.bl true) H'
theorem law_ok {G : Gb} {P : Program} {w : World} {K : PySem.W.Frag} {mg : Str → Option Value} {base : Heap} {CX : CXT} {k n : Nat} {f : Addr} {fd : FuncData} {ps : List Str} {md : Bool} {fn : List D → Rs D} (h : FnOk P w K mg base CX k f fd ps (spF G md 1 fn)) (hK : G.K = K) (hp : ps.length = 1)
    (hfn : ∀ ns : List Int, ns.length ≤ n → fn [.scr ns] = .ok (.bl true)) : FnOk P w K mg base CX k f fd ps (spLaw K n) := by
  have m : ∀ vs H Q E, spLaw K n vs H Q E → spF G md 1 fn vs H Q E := by
    rintro vs H Q E ⟨a, ns, rfl, hl, hS, q⟩
    subst hK
    refine ⟨rfl, [.scr ns], fun _ => True, ⟨_, _, rfl, ⟨a, rfl, hS⟩, rfl⟩, ?_⟩
    rw [hfn ns hl]
    intro v H' _ r
    have : v = .bl true := by
      cases md with
      | true => obtain ⟨os, h, _⟩ := r; exact h.2
      | false => exact r
    rw [this]
    exact q H'
  obtain ⟨h1, h2⟩ := h
  exact ⟨fun vs H Q E hs => h1 vs H Q E (m _ _ _ _ hs), fun A outer s H args us vs Q E hr e0 hb r hsp => h2 A outer s H args us vs Q E hr e0 hb r (m _ _ _ _ hsp)⟩
theorem law_end {K : PySem.W.Frag} {n : Nat} (H : Hp) (a : Addr) (ns : List Int) (hl : ns.length ≤ n) (ho : Only H) (hS : SqL K H a (ns.map V.int)) : spLaw K n [.ref a] H (fun v _ => v = .bl true) fun _ _ _ => False := by
  refine ⟨a, ns, rfl, hl, ?_, fun _ => rfl⟩
  rcases hS with (h | ⟨o, h⟩) | h
  · rcases ho a with z | ⟨o, xs, z⟩
    · rw [z] at h; cases h
    · rw [z] at h; cases h
  · exact .inl ⟨o, h⟩
  · exact .inr h
end Pi
namespace Pi
open PySem PySem.Spec PyProof.Rows L2
section
variable {G : Gb} {S : Se} {W : WX} {N : List Str} {sc : Scope} {k : Nat} {X : Cx} {F F1 F2 F3 Fh Fx : List SF} {Fo : List SF} {f f1 f2 : VF} {c : Fr} {en : En} {own own0 : Own} {σ : L2.St} {H H' H0 : Hp}
theorem opr_eqG (g : Gv G N sc X) : OpR X (compareOp .Eq) (rEqP G.K false) := by rw [← g.K]; exact opr_eq g.un
theorem opr_neG (g : Gv G N sc X) : OpR X (compareOp .NotEq) (rEqP G.K true) := by rw [← g.K]; exact opr_ne g.un
theorem de_add {a b : Expr} {pos : Pos} {ea eb : EvE} (ha : PE X a (TEv G W F F1 f1 ea)) (hb : PE X b (TEv G W F1 F2 f2 eb)) : PE X (.BinOp a .Add b pos) (TEv G W F F2 (.uq (f1.dp && f2.dp)) (eB2 oAdd ea eb)) := de_op opr_add ops_add ha hb
theorem de_sub {a b : Expr} {pos : Pos} {ea eb : EvE} (ha : PE X a (TEv G W F F1 f1 ea)) (hb : PE X b (TEv G W F1 F2 f2 eb)) : PE X (.BinOp a .Sub b pos) (TEv G W F F2 (.uq true) (eB2 oSub ea eb)) := de_op opr_sub ops_sub ha hb
theorem de_mul {a b : Expr} {pos : Pos} {ea eb : EvE} (ha : PE X a (TEv G W F F1 f1 ea)) (hb : PE X b (TEv G W F1 F2 f2 eb)) : PE X (.BinOp a .Mult b pos) (TEv G W F F2 (.uq (f1.dp && f2.dp)) (eB2 oMul ea eb)) := de_op opr_mul ops_mul ha hb
theorem de_div {a b : Expr} {pos : Pos} {ea eb : EvE} (ha : PE X a (TEv G W F F1 f1 ea)) (hb : PE X b (TEv G W F1 F2 f2 eb)) : PE X (.BinOp a .FloorDiv b pos) (TEv G W F F2 (.uq true) (eB2 oDiv ea eb)) := de_op opr_div ops_div ha hb
theorem de_mod {a b : Expr} {pos : Pos} {ea eb : EvE} (ha : PE X a (TEv G W F F1 f1 ea)) (hb : PE X b (TEv G W F1 F2 f2 eb)) : PE X (.BinOp a .Mod b pos) (TEv G W F F2 (.uq true) (eB2 oMod ea eb)) := de_op op_modN ops_mod ha hb
theorem de_pow {a b : Expr} {pos : Pos} {ea eb : EvE} (ha : PE X a (TEv G W F F1 f1 ea)) (hb : PE X b (TEv G W F1 F2 f2 eb)) : PE X (.BinOp a .Pow b pos) (TEv G W F F2 (.uq true) (eB2 oPow ea eb)) := de_op op_pow ops_pow ha hb
theorem ds_pre {st : Stmt} {s : EvS} (h : PS X st (TSv G S F1 Fo s)) (w : wkL F F1 = true := by rfl) : PS X st (TSv G S F Fo s) := by
  refine ps_imp h ?_
  rintro D σ H ⟨c, en, own, ok, m⟩
  obtain ⟨own2, ok2, _⟩ := ok.weak w
  exact ⟨c, en, own2, ok2, m⟩
theorem tboot_int : bootBuiltins "int" = some (.type Ty.int.nm) := by decide +kernel
theorem tboot_bool : bootBuiltins "bool" = some (.type Ty.bool.nm) := by decide +kernel
theorem tboot_list : bootBuiltins "list" = some (.type Ty.list.nm) := by decide +kernel
theorem tboot_tuple : bootBuiltins "tuple" = some (.type Ty.tuple.nm) := by decide +kernel
end
end Pi
namespace Pi
open PySem PySem.Spec PyProof.Rows L2 He
end Pi
namespace Pi
open PySem PySem.Spec PyProof.Rows L2 He
def hookQ (as : List Addr) (fa : List Fa) (fn : List DefD) (ex : PySem.W.Frag → Bool) : PySem.W.Hook where
  α := AlD × Bool
  obs := fun s => (obsD fa fn (frG s.heap.get? as), ex (frG s.heap.get? as))
  val := fun _ => (valD fn, true)
  says := fun _ h => ∃ K : PySem.W.Frag, K.In h ∧ SaysD fa fn K ∧ ex K = true
  of := fun _ _ e => ⟨_, frG_in, congrArg (fun z : AlD × Bool => z.1) e, congrArg (fun z : AlD × Bool => z.2) e⟩
  keeps := fun _ _ _ ⟨K, hK, c⟩ k => ⟨K, PySem.W.Frag.In.keeps hK k, c⟩
def obQ (as : List Addr) (fa : List Fa) (fn : List DefD) (ex : PySem.W.Frag → Bool) (g : Addr → Option Obj) : AlD × Bool := (obsD fa fn (frG g as), ex (frG g as))
theorem obQ_eq {as : List Addr} {fa : List Fa} {fn : List DefD} {ex : PySem.W.Frag → Bool} {g : Addr → Option Obj} {s : Shared} (h : ∀ a, g a = s.heap.get? a) : obQ as fa fn ex g = (hookQ as fa fn ex).obs s := by
  have e : g = s.heap.get? := funext h
  rw [e] <;> rfl
end Pi
namespace Pi
open PySem PySem.Spec PyProof.Rows L2
def wipF : List Nat → List SF → List SF
  | [], F => F
  | v :: vs, F => (wipF vs F).set v .n
def wipE : List Nat → En → En
  | [], en => en
  | v :: vs, en => (wipE vs en).set v none
def SF.blk : SF → SF
  | .s _ => .s false
  | .o _ | .z => .z
  | _ => .n
def blkF (vs : List Nat) (F : List SF) : List SF := wipF vs (F.map SF.blk)
theorem wipF_len (vs : List Nat) (F : List SF) : (wipF vs F).length = F.length := by
  induction vs with
  | nil => rfl
  | cons v vs ih => simp [wipF, ih]
theorem wipE_len (vs : List Nat) (en : En) : (wipE vs en).length = en.length := by
  induction vs with
  | nil => rfl
  | cons v vs ih => simp [wipE, ih]
theorem wipF_out {vs : List Nat} {F : List SF} {j : Nat} (h : j ∉ vs) : (wipF vs F)[j]? = F[j]? := by
  induction vs with
  | nil => rfl
  | cons v vs ih =>
    simp only [List.mem_cons, not_or] at h
    rw [wipF, List.getElem?_set_ne (fun e => h.1 e.symm), ih h.2]
theorem wipF_in {vs : List Nat} {F : List SF} {j : Nat} (h : j ∈ vs) : (wipF vs F)[j]? = some .n ∨ (wipF vs F)[j]? = none := by
  by_cases hj : j < F.length
  · refine .inl ?_
    induction vs with
    | nil => cases h
    | cons v vs ih =>
      rw [wipF]
      by_cases e : v = j
      · subst e; exact List.getElem?_set_self (by rw [wipF_len]; exact hj)
      · rw [List.getElem?_set_ne e]
        exact ih ((List.mem_cons.mp h).resolve_left fun z => e z.symm)
  · exact .inr (List.getElem?_eq_none (by rw [wipF_len]; omega))
theorem wipE_out {vs : List Nat} {en : En} {j : Nat} (h : j ∉ vs) : (wipE vs en)[j]? = en[j]? := by
  induction vs with
  | nil => rfl
  | cons v vs ih =>
    simp only [List.mem_cons, not_or] at h
    rw [wipE, List.getElem?_set_ne (fun e => h.1 e.symm), ih h.2]
theorem wipe_out {vs : List Nat} {σ : L2.St} {j : Nat} (h : j ∉ vs) : (wipe σ vs)[j]? = σ[j]? := by
  induction vs with
  | nil => rfl
  | cons v vs ih =>
    simp only [List.mem_cons, not_or] at h
    rw [wipe, List.getElem?_set_ne (fun e => h.1 e.symm), ih h.2]
theorem wipe_in {vs : List Nat} {σ : L2.St} {j : Nat} (h : j ∈ vs) : (wipe σ vs)[j]? = if j < σ.length then some none else none := by
  by_cases hj : j < σ.length
  · rw [if_pos hj]
    induction vs with
    | nil => cases h
    | cons v vs ih =>
      rw [wipe]
      by_cases e : v = j
      · subst e; exact List.getElem?_set_self (by rw [wipe_length]; exact hj)
      · rw [List.getElem?_set_ne e]
        exact ih ((List.mem_cons.mp h).resolve_left fun z => e z.symm)
  · rw [if_neg hj]
    exact List.getElem?_eq_none (by rw [wipe_length]; omega)
theorem wipe_eq {vs is : List Nat} {σ σ2 : L2.St} (hs : ∀ i, i ∈ is → i ∈ vs) (hl : σ2.length = (wipe σ vs).length) (h : ∀ j, j ∉ is → σ2[j]? = (wipe σ vs)[j]?) : wipe σ2 vs = wipe σ vs := by
  rw [wipe_length] at hl
  apply List.ext_getElem?
  intro j
  by_cases hj : j ∈ vs
  · rw [wipe_in hj, wipe_in hj, hl]
  · rw [wipe_out hj, h j fun z => hj (hs j z)]
def Fr.blk (c : Fr) (own : Own) (H1 : Hp) (D : Addr) : Fr := ⟨upd H1 D (.lst []), fun a => Av c (ow own) false a ∧ a ≠ D, fun a => ow own a ∨ a = D, fun _ => none, fun _ => none⟩
open Classical in
noncomputable def Own.blk (own : Own) (Fb : List SF) : Own := ⟨fun j => if Fb[j]? = some .z then own.sl j else [], fun _ => False⟩
section
variable {G : Gb} {S : Se} {W : WX} {N : List Str} {sc scope : Scope} {k : Nat} {X : Cx} {F F1 F2 F3 F4 Fh : List SF} {Fo : List SF} {f f1 f2 : VF} {c : Fr} {en : En} {own own0 : Own} {σ : L2.St} {H H' H0 H1 : Hp} {Da : Addr} {vs : List Nat}
theorem ow_blk {Fb : List SF} {a : Addr} (h : ow (own.blk Fb) a) : ow own a := by
  rcases h with ⟨j, hj⟩ | h
  · unfold Own.blk at hj
    dsimp only at hj
    split at hj
    · exact .inl ⟨j, hj⟩
    · cases hj
  · exact h.elim
theorem up_blk (ok : Ok G c F en own σ H1) (hD : H1 Da = none) (s : Same H1 H) {dp : Bool} {Fb : List SF} : Up G.K (Av c (ow own) dp) (Av (c.blk own H1 Da) (ow (own.blk Fb)) false) H1 H := by
  have m : ∀ {a o}, Av c (ow own) dp a → H1 a = some o → Av (c.blk own H1 Da) (ow (own.blk Fb)) false a := fun {a o} h e =>
    ⟨fun z => h.1 (ow_blk z), fun z => (nomatch z), .inr ⟨h.undp, fun z => by rw [z, hD] at e; cases e⟩⟩
  refine ⟨fun a xs h e => ⟨m h e, s _ _ e⟩, fun a kvs h e => ⟨?_, rdS e s⟩, fun a C dx fs h e => ⟨m h e, s _ _ e⟩, fun a xs e => rdS e s, fun a xs e => sfS e s⟩
  rcases e with e | ⟨o, e⟩
  · exact m h e
  · exact m h e
theorem blk_ok (ok : Ok G c F en own σ H1) (hD : H1 Da = none) (s : Same H1 H) {o : HO} (hH : H Da = some o) : Ok G (c.blk own H1 Da) (blkF vs F) (wipE vs en) (own.blk (blkF vs F)) (wipe σ vs) H := by
  refine { lF := by rw [wipe_length, ← ok.lF]; simp [blkF, wipF_len], lE := by rw [wipe_length, wipE_len]; exact ok.lE, same := fun b x nb e => ?_, tr := fun a h => ?_, dj := fun i j a h1 h2 => ?_, dt := fun i a h z => z.elim, nt := fun a h => h.elim, nw := fun i a h => ?_, sl := fun i => ?_, lk := fun a x h => (nomatch h) }
  · have ne : b ≠ Da := fun z => nb (.inr z)
    have e' : H1 b = some x := by
      have z : (upd H1 Da (.lst []) : Hp) b = some x := e
      rw [upd_ne ne] at z
      exact z
    exact s _ _ e'
  · rcases h with h | h
    · exact same_ne s (ok.trk h)
    · rw [h, hH]; simp
  · unfold Own.blk at h1 h2
    dsimp only at h1 h2
    split at h1
    · split at h2
      · exact ok.dj i j a h1 h2
      · cases h2
    · cases h1
  · unfold Own.blk at h
    dsimp only at h
    split at h
    · rename_i z
      exact ⟨same_ne s (ok.nw i a h).1, .inr ⟨by rw [z]; trivial, .inl (.inl ⟨i, h⟩)⟩⟩
    · cases h
  · by_cases hi : i ∈ vs
    · unfold Slt
      rcases wipF_in (F := F.map SF.blk) hi with e | e
      · rw [show (blkF vs F)[i]? = _ from e]; simp
      · rw [show (blkF vs F)[i]? = _ from e]; simp
    · have hF : (blkF vs F)[i]? = (F[i]?).map SF.blk := by
        unfold blkF
        rw [wipF_out hi, List.getElem?_map]
      have h := ok.sl i
      unfold Slt at h ⊢
      rw [hF, wipE_out hi, wipe_out hi]
      have hz : (blkF vs F)[i]? = some .z → (own.blk (blkF vs F)).sl i = own.sl i := fun z => if_pos z
      cases q : F[i]? with
      | none => simp
      | some f =>
        rw [q] at h hF
        cases he : en[i]? with
        | none => cases f <;> simp [SF.blk]
        | some od =>
          cases od with
          | none => cases f <;> simp [SF.blk]
          | some d =>
            rw [he] at h
            cases f with
            | n => simp [SF.blk]
            | dt _ => simp [SF.blk]
            | ma _ => simp [SF.blk]
            | x a => simp [SF.blk]
            | s dp => obtain ⟨x, h1, h2⟩ := h; exact ⟨x, h1, R.up (up_blk ok hD s) _ h2⟩
            | o dp =>
              obtain ⟨x, h1, h2⟩ := h
              refine ⟨x, h1, ?_⟩
              rw [hz hF]
              exact ⟨RO.up h2 (up_blk ok hD s) (fun a o _ e => s _ _ e), fun a ha => .inl (.inl ⟨i, ha⟩)⟩
            | z =>
              obtain ⟨x, h1, h2, _⟩ := h
              refine ⟨x, h1, ?_⟩
              rw [hz hF]
              exact ⟨RO.up h2 (up_blk ok hD s) (fun a o _ e => s _ _ e), fun a ha => .inl (.inl ⟨i, ha⟩)⟩
theorem up_out (ok : Ok G c F en own σ H1) (hD : H1 Da = none) {O : Addr → Prop} {dp : Bool} : Up G.K (Av (c.blk own H1 Da) O dp) (Av c (ow (own.resL [Da])) dp) H H := by
  have m : ∀ {a}, Av (c.blk own H1 Da) O dp a → Av c (ow (own.resL [Da])) dp a := fun {a} h => by
    have no : ow (own.resL [Da]) a → False := fun z => by
      have z2 : ow own a ∨ a = Da := by
        rcases z with z | z | z
        · exact .inl (.inl z)
        · exact .inl (.inr z)
        · exact .inr (by simpa using z)
      rcases h.2.2 with q | q
      · have q' : (upd H1 Da (.lst []) : Hp) a = none := q
        rcases z2 with z2 | z2
        · have ne : a ≠ Da := fun e => ok.trk z2 (by rw [e]; exact hD)
          rw [upd_ne ne] at q'
          exact ok.trk z2 q'
        · rw [z2, upd_same] at q'; cases q'
      · rcases z2 with z2 | z2
        · exact q.1.1 z2
        · exact q.2 z2
    have fr : (upd H1 Da (.lst []) : Hp) a = none → c.H0 a = none := fun q => by
      have ne : a ≠ Da := fun e => by rw [e, upd_same] at q; cases q
      rw [upd_ne ne] at q
      exact ok.free q
    refine ⟨no, fun z => fr (h.2.1 z), ?_⟩
    rcases h.2.2 with q | q
    · exact .inl (fr q)
    · exact q.1.2.2
  exact ⟨fun a xs h e => ⟨m h, e⟩, fun a kvs h e => ⟨m h, e⟩, fun a C dx fs h e => ⟨m h, e⟩, fun a xs e => e, fun a xs e => e⟩
theorem up_in {Fb : List SF} {dp : Bool} : Up G.K (Av (c.pin own H1) (ow (own.resL [Da])) dp) (Av (c.blk own H1 Da) (ow (own.blk Fb)) false) H H := by
  have m : ∀ {a}, Av (c.pin own H1) (ow (own.resL [Da])) dp a → Av (c.blk own H1 Da) (ow (own.blk Fb)) false a := fun {a} h => by
    have n1 : ¬ ow own a := fun z => h.1 (z.elim .inl fun z => .inr (.inl z))
    exact ⟨fun z => n1 (ow_blk z), fun z => (nomatch z), .inr ⟨⟨n1, fun z => (nomatch z), h.2.2⟩, fun z => h.1 (.inr (.inr (by simp [z])))⟩⟩
  exact ⟨fun a xs h e => ⟨m h, e⟩, fun a kvs h e => ⟨m h, e⟩, fun a C dx fs h e => ⟨m h, e⟩, fun a xs e => e, fun a xs e => e⟩
abbrev wF : WX := fun _ _ _ _ => False
def rl (sc scope : Scope) : Scope := { scope with names := scope.names.map fun (n, k) => if (k == NameKind.free && sc.kind == .function && sc.names.lookup n == some .cell) then (n, NameKind.cell) else (n, k) }
theorem Gd.blk (g : Gd G N sc k W X) {s : Shared} {H : Hp} {C : Addr} {cl : List (Str × Addr)} {fp : List Addr} : Gd G N (rl sc scope) k wF (X.blk s H scope (compEnvC scope cl C X.env) fp) :=
  { prog := g.prog, w := g.w, K := g.K, mg := g.mg, base := g.base, nN := g.nN, nd := g.nd, sc := by rw [← g.sc] <;> rfl, un := g.un, calm := g.calm, room := g.room, tk := takes0, po := PassesOwn.never }
theorem dts_nil : PTs X [] (TTv G W F F (fun _ => .ok true)) := ⟨fun pins s σ H Q I hw => pts_nil.run pins s σ H Q I (by
  obtain ⟨c, en, own, ok, m⟩ := hw
  exact m H own ok (Same.refl H) sub_refl)⟩
def noR {α : Type} : Rs α → Rs α
  | .ok a => .ok a
  | .error _ => .error .stuck
def evLc (set : En → D → Option En) (t : En → Rs Bool) (e : EvE) (enb : En) : List D → Rs (List D)
  | [] => .ok []
  | d :: ds => bnd (ofO (set enb d)) fun en1 => bnd (t en1) fun b => if b = true then bnd (e en1) fun y => bnd (evLc set t e enb ds) fun r => .ok (y :: r) else evLc set t e enb ds
def eLc (vs : List Nat) (evI : EvI) (set : En → D → Option En) (t : En → Rs Bool) (e : EvE) : EvE := fun en => bnd (evI en) fun ds => bnd (noR (evLc set t e (wipE vs en) ds)) fun l => if l.length ≤ sizeLine then .ok (.lst l) else .error .stuck
theorem noR_ok {α : Type} {r : Rs α} {q : α → Prop} (h : Mt G W c σ (noR r) q) : ∃ a, r = .ok a ∧ q a := by
  cases r with
  | ok a => exact ⟨a, rfl, h⟩
  | error e => exact h.elim
theorem bnd_ok' {α β : Type} {r : Rs α} {h : α → Rs β} {b : β} (e : bnd r h = .ok b) : ∃ a, r = .ok a ∧ h a = .ok b := by
  cases r with
  | ok a => exact ⟨a, rfl, e⟩
  | error x => cases e
theorem ofO_ok' {α : Type} {o : Option α} {a : α} (e : ofO o = .ok a) : o = some a := by
  cases o with
  | none => cases e
  | some b => cases e; rfl
theorem lc_core {wi : TI} {gg : TG} {tt : TT} {te : TE} {dpi : Bool} {is : List Nat} {evI : EvI} {set : En → D → Option En} {t : En → Rs Bool} {ee : EvE} {tg : Expr} {X' : Cx} (hi : ∀ σ H Q, TIv G W F F1 dpi evI σ H Q → wi σ H Q)
    (hg : TgO G X' tg gg (blkF vs F1) F2 false is set) (ht : ∀ σ H Q, TTv G wF F2 F3 t σ H Q → tt σ H Q) (he : ∀ σ H Q, TEv G wF F3 F4 f ee σ H Q → te σ H Q) (his : ∀ i, i ∈ is → i ∈ vs) (hn : f.nb = true) :
    ∀ σ H Q, TEv G W F F1 (.uq f.dp) (eLc vs evI set t ee) σ H Q → tLc wi gg tt te vs σ H Q := by
  rintro σ H Q ⟨c, en, own, ok, m⟩
  refine hi _ _ _ ⟨c, en, own, ok, m.bnd.imp fun ds _ q J H1 own1 ok1 s1 b1 its D hD => ?_⟩
  obtain ⟨l, el, q⟩ := noR_ok q.bnd
  split at q
  · rename_i hlen
    have hfin : ∀ {H : Hp}, Same H1 H → H D ≠ none → Ok G c F1 en (own1.resL [D]) σ H := fun sH nD => ok1.resL sH (fun a ha => by rw [show a = D by simpa using ha]; exact hD) (fun a ha => by rw [show a = D by simpa using ha]; exact nD)
    refine ⟨fun i m H => m = ds.length - i ∧ i ≤ ds.length ∧ Same H1 H ∧ ∃ acc done rest, H D = some (.lst acc) ∧ RL G (Av c (ow (own1.resL [D])) f.dp) H done acc ∧ evLc set t ee (wipE vs en) (ds.drop i) = .ok rest ∧ done ++ rest = l, ⟨_, rfl, Nat.zero_le _, same_new hD, [], [], l, upd_same, rfl, el, rfl⟩, ?_⟩
    rintro i m H ⟨rfl, hi, sH, acc, done, rest, hHD, hRL, hev, hl⟩
    by_cases hlt : i < ds.length
    · have hd : ds[i]? = some ds[i] := List.getElem?_eq_getElem hlt
      rw [List.drop_eq_getElem_cons hlt] at hev
      obtain ⟨en1, e1, hev⟩ := bnd_ok' hev
      obtain ⟨b, e2, hev⟩ := bnd_ok' hev
      have okP : Ok G (c.pin own1 H1) F1 en (own1.resL [D]) σ H := ok1.pin.resL sH (fun a ha => by rw [show a = D by simpa using ha]; exact hD) (fun a ha => by rw [show a = D by simpa using ha, hHD]; simp)
      obtain ⟨hgo, hy⟩ := its.go okP hd
      refine .inr ⟨hgo, fun H5 => Same H1 H5 ∧ ∃ acc done rest, H5 D = some (.lst acc) ∧ RL G (Av c (ow (own1.resL [D])) f.dp) H5 done acc ∧ evLc set t ee (wipE vs en) (ds.drop (i + 1)) = .ok rest ∧ done ++ rest = l, fun H5 q5 => ⟨_, by omega, rfl, hlt, q5.1, q5.2⟩, fun x H' y => ?_⟩
      obtain ⟨sm, rx⟩ := hy x H' y
      have blk := blk_ok (vs := vs) ok1 hD (sH.trans sm) (sm _ _ hHD)
      refine hg.ok blk (R.up up_in _ rx) (ofO_ok' e1) fun σ2 own2 ok2 _ z => ⟨wipe_eq his z.1 z.2, ht _ _ _ ⟨_, en1, own2, ok2, ?_⟩⟩
      rw [e2]
      intro H3 own3 ok3 s3 b3
      cases b with
      | false =>
        rw [if_neg (by decide)] at hev ⊢
        exact ⟨(sH.trans sm).trans s3, acc, done, rest, s3 _ _ (sm _ _ hHD), RL.up (Up.same (sm.trans s3) fun _ h => h) _ hRL, hev, hl⟩
      | true =>
        rw [if_pos rfl] at hev ⊢
        obtain ⟨y', e3, hev⟩ := bnd_ok' hev
        obtain ⟨r, e4, hev⟩ := bnd_ok' hev
        cases hev
        refine he _ _ _ ⟨_, en1, own3, ok3, ?_⟩
        rw [e3]
        intro v H4 own4 ok4 s4 b4 r4
        obtain ⟨own5, ok5, sb5, a4⟩ := r4.share ok4 hn
        have hD4 : H4 D = some (.lst acc) := s4 _ _ (s3 _ _ (sm _ _ hHD))
        have s14 : Same H1 H4 := ((sH.trans sm).trans s3).trans s4
        have nA : ¬ Av c (ow (own1.resL [D])) f.dp D := fun z => z.1 (.inr (.inr (by simp)))
        have hlen2 : acc.length < sizeLine := by
          rw [hRL.len]
          have := congrArg List.length hl
          simp only [List.length_append, List.length_cons] at this
          omega
        refine ⟨acc, hD4, hlen2, fun b o e => ?_, acc ++ [v], done ++ [y'], r, upd_same, RL.app (RL.up (Up.write hD4 trivial nA) _ (RL.up (Up.same ((sm.trans s3).trans s4) fun _ h => h) _ hRL)) (RL.cons (R.up (Up.write hD4 trivial nA) _ (R.up (up_out ok1 hD) _ a4)) RL.nil), e4, by rw [← hl]; simp⟩
        rw [upd_ne (fun z => by rw [z, hD] at e; cases e)]
        exact s14 _ _ e
    · have e : i = ds.length := by omega
      subst e
      rw [List.drop_length] at hev
      cases hev
      rw [List.append_nil] at hl
      subst hl
      have okf := hfin sH (by rw [hHD]; simp)
      have okP : Ok G (c.pin own1 H1) F1 en (own1.resL [D]) σ H := ok1.pin.resL sH (fun a ha => by rw [show a = D by simpa using ha]; exact hD) (fun a ha => by rw [show a = D by simpa using ha, hHD]; simp)
      exact .inl ⟨its.stop okP, q (.ref D) H _ okf (s1.trans sH) (sub_trans b1 s1 (sub_resL fun a ha => by rw [show a = D by simpa using ha]; exact hD)) ⟨[D], ⟨D, acc, rfl, rfl, hHD, hRL⟩, fun a ha => .inr ha⟩⟩
  · exact q.elim
theorem blkFn {s : Shared} {H : Hp} {cenv : Env} {fp : List Addr} : ∀ x, scope.names.lookup x = some .cell → (X.blk s H scope cenv fp).fn x = true := fun x h => by
  show (scope.names.lookup x == some .cell) = true
  rw [h]
  rfl
theorem sw_lc {elt : Expr} {gs : List Comprehension} {pos py : Pos} {y : Str} {l : Nat} {env : Env} : swapsWith (.ListComp elt gs scope pos) (some (.Name y py)) l env = pure (env.blockKind == .function && env.kindOf y == some .local && py.line == pos.line && !(scope.names.any fun (n, k) => n == y && (k == .local || k == .cell))) := rfl
theorem sw_lc_yes (g : Gs G N sc k W X) {elt : Expr} {gs : List Comprehension} {pos py : Pos} {y : Str} {l : Nat} (hy : plainLocB sc y = true) (hl : (py.line == pos.line) = true) (hn : (scope.names.any fun (n, k) => n == y && (k == .local || k == .cell)) = false) : swapsWith (.ListComp elt gs scope pos) (some (.Name y py)) l X.env = pure true := by
  rw [sw_lc]
  have hb : X.env.blockKind = .function := by unfold Env.blockKind; rw [g.g.sc, g.kd]; rfl
  have hk : X.env.kindOf y = some .local := plainLocB_loc hy g.g.sc
  rw [hb, hk, hl, hn]
  rfl
theorem ds_asLc (g : Gs G N sc k S.W X) (i : Nat) (own : List (Str × Nat)) {y : Str} {py spos : Pos} {elt tg iter : Expr} {ifs : List Expr} {pos : Pos} {gg : TG} {dpi : Bool} {is : List Nat} {evI : EvI} {set : En → D → Option En} {t : En → Rs Bool} {ee : EvE} (hi : PI X tg iter (TIv G S.W F F1 dpi evI)) (ok : BlkOk N sc scope own)
    (hg : ∀ X', Gd G N (rl sc scope) k wF X' → (∀ x, scope.names.lookup x = some .cell → X'.fn x = true) → TgO G X' tg gg (blkF (own.map (·.2)) F1) F2 false is set) (ht : ∀ X', Gd G N (rl sc scope) k wF X' → PTs X' ifs (TTv G wF F2 F3 t)) (he : ∀ X', Gd G N (rl sc scope) k wF X' → PE X' elt (TEv G wF F3 F4 f ee))
    (his : ∀ i, i ∈ is → i ∈ own.map (·.2) := by decide) (hn : f.nb = true := by rfl) (hN : N[i]? = some y := by rfl) (hy : plainLocB sc y = true := by rfl) (hz : zB F1 i = true := by rfl)
    (hln : (py.line == pos.line) = true := by rfl) (hnn : (scope.names.any fun (n, k) => n == y && (k == .local || k == .cell)) = false := by rfl) (hs : ∀ x, foldedSetIterable iter X.env x = pure x := by intro _; rfl) :
    PS X (.Assign [.Name y py] (.ListComp elt [⟨tg, iter, ifs, 0⟩] scope pos) spos) (TSv G S F (F1.set i (.o f.dp)) (sAs i (eLc (own.map (·.2)) evI set t ee))) :=
  ps_imp (ps_setLc (i := i) g.g.calm (by rw [g.g.nN]; exact g.g.nd) (by rw [g.g.nN]; exact hN) (plainLocB_loc hy g.g.sc) (sw_lc_yes g hy hln hnn) hi (by rw [g.g.nN, g.g.sc]; exact ok) (fun s H C cl fp => (hg _ g.g.blk blkFn).pg) (fun s H C cl fp => ht _ g.g.blk) (fun s H C cl fp => he _ g.g.blk) hs)
    (as_core (f := .uq f.dp) hz rfl (lc_core (fun _ _ _ z => z) (hg _ (g.g.blk (s := X.s_0) (H := X.H_0) (C := 0) (cl := []) (fp := [])) blkFn) (fun _ _ _ z => z) (fun _ _ _ z => z) his hn))
def blkB (N : List Str) (sc scope : Scope) (own : List (Str × Nat)) : Bool :=
  decide (scope.kind = .function) && scope.names.all (fun y => decide (scope.names.lookup y.1 = some y.2)) && own.all (fun p => decide (N[p.2]? = some p.1)) &&
  scope.names.all (fun y => !decide (y.2 = .free) || decide (sc.names.lookup y.1 = some .cell) || decide (sc.names.lookup y.1 = some .free)) &&
  scope.names.all (fun y => !(decide (y.2 = .local) || decide (y.2 = .cell)) || decide (y.1 ∈ own.map (·.1)) || decide (y.1 ∉ N))
theorem blk_by {own : List (Str × Nat)} (h : blkB N sc scope own = true) : BlkOk N sc scope own := by
  simp only [blkB, Bool.and_eq_true, decide_eq_true_eq, List.all_eq_true, Bool.or_eq_true, Bool.not_eq_true', decide_eq_false_iff_not, Bool.or_eq_false_iff] at h
  obtain ⟨⟨⟨⟨h1, h2⟩, h3⟩, h4⟩, h5⟩ := h
  refine ⟨h1, h2, h3, fun y hy e => ?_, fun y hy e => ?_⟩
  · rcases h4 y hy with (z | z) | z
    · exact absurd e z
    · exact .inl z
    · exact .inr z
  · rcases h5 y hy with (z | z) | z
    · rcases e with e | e
      · exact absurd e z.1
      · exact absurd e z.2
    · exact .inl z
    · exact .inr z
end
end Pi
namespace Pi
open PySem PySem.Spec PyProof.Rows L2
section
variable {G : Gb} {S : Se} {W : WX} {N : List Str} {sc scope : Scope} {k : Nat} {X : Cx} {F F1 F2 F3 F4 Fh : List SF} {Fo : List SF} {f f1 f2 : VF} {c : Fr} {en : En} {own own0 : Own} {σ : L2.St} {H H' H0 H1 : Hp}
theorem RL.ints {A : Addr → Prop} {H : Hp} : ∀ l : List Int, RL G A H (l.map D.int) (l.map V.int)
  | [] => rfl
  | z :: l => RL.cons rfl (RL.ints l)
theorem its_at {dp : Bool} {d : D} {ds : List D} {a : Addr} (h : R G (Av c (ow own0) dp) H0 d (.ref a)) (e : itemsL d = some ds) (ok : Ok G (c.pin own0 H0) F en own σ H) : ∃ xs, SqL G.K H a xs ∧ RL G (Av c (ow own) dp) H ds xs := by
  have h2 := R.up (Up.pin ok) _ h
  cases d <;> first | (cases e; done) | skip
  · obtain rfl := Option.some.inj e
    obtain ⟨a', xs, e, _, h1, r⟩ := h2
    cases e
    exact ⟨xs, SqL.of h1, r⟩
  · rename_i l
    obtain rfl := Option.some.inj e
    obtain ⟨a', e, h1⟩ := h2
    cases e
    exact ⟨_, h1.sq, RL.ints l⟩
def enumD : Nat → List D → List D
  | _, [] => []
  | k, d :: ds => .tup [.int k, d] :: enumD (k + 1) ds
theorem enumD_len : ∀ (k : Nat) (l : List D), (enumD k l).length = l.length
  | _, [] => rfl
  | k, _ :: l => congrArg Nat.succ (enumD_len (k + 1) l)
theorem enumD_at : ∀ (k : Nat) (l : List D) (i : Nat), (enumD k l)[i]? = (l[i]?).map fun d => .tup [.int ((k + i : Nat) : Int), d]
  | _, [], i => by simp [enumD]
  | k, d :: l, 0 => by simp [enumD]
  | k, d :: l, i + 1 => by
    rw [show (enumD k (d :: l))[i + 1]? = (enumD (k + 1) l)[i]? from rfl, enumD_at (k + 1) l i, show (d :: l)[i + 1]? = l[i]? from rfl]
    congr 1
    funext d'
    rw [show k + 1 + i = k + (i + 1) by omega]
def oEnum : List D → Option (List D)
  | [d] => (itemsL d).map (enumD 0)
  | _ => none
def iEn (ea : En → Rs (List D)) : EvI := fun en => bnd (ea en) fun ds => ofO (oEnum ds)
theorem di_enum (g : Gd G N sc k W X) {e : Expr} {p pos tpos : Pos} {elts : List Expr} {kk : Nat} {ea : En → Rs (List D)} (hm : G.mg "enumerate" = none) (ha : PA X [e] (TAv G W F F1 [f] ea)) (hn : f.nb = true := by rfl) (hg : glbB sc "enumerate" = true := by rfl) (hs : starEach [e] X.env = [(false, eval e X.env)] := by rfl) :
    PI X (.Tuple elts kk tpos) (.Call (.Name "enumerate" p) [e] [] pos) (TIv G W F F1 f.dp (iEn ea)) := by
  refine pi_imp (pi_enum (glbB_gl hg g.sc) (by rw [g.mg]; exact hm) ha hs) ?_
  rw [g.K]
  rintro σ H Q ⟨c, en, own, ok, m⟩
  refine ⟨c, en, own, ok, m.bnd.imp fun ds hd0 q vs H1 own1 ok1 s1 b1 r1 => ?_⟩
  clear hd0
  obtain ⟨its, e, q⟩ := q.ofO
  obtain ⟨d, r, v, t, rfl, rfl, h1, h2⟩ := r1
  obtain ⟨rfl, rfl⟩ := h2
  obtain ⟨l, el, rfl⟩ := Option.map_eq_some_iff.mp e
  have h1' := h1.r hn
  obtain ⟨a, rfl⟩ := itemsL_ref h1' el
  obtain ⟨xs0, z1, _⟩ := its_at h1' el ok1.pin
  refine ⟨a, xs0, rfl, z1, q _ H1 own1 ok1 s1 b1 ⟨fun {F en own σ H i d} ok hd => ?_, fun {F en own σ H} ok => ?_⟩⟩
  · obtain ⟨xs, hq, hr⟩ := its_at h1' el ok
    rw [enumD_at] at hd
    obtain ⟨d0, hd0, rfl⟩ := Option.map_eq_some_iff.mp hd
    obtain ⟨x, hx, rx⟩ := hr.get hd0
    refine ⟨⟨xs, x, hq, hx⟩, fun y H' z => ?_⟩
    obtain ⟨T, x', rfl, hT, rfl, z⟩ := z
    have := z xs hq
    rw [hx] at this
    cases this
    refine ⟨same_new hT, T, _, rfl, SqT.of upd_same, RL.cons ?_ (RL.cons (R.up (Up.same (same_new hT) fun _ h => h) _ rx) RL.nil)⟩
    show V.int _ = V.int _
    rw [Nat.zero_add]
  · obtain ⟨xs, hq, hr⟩ := its_at h1' el ok
    exact ⟨xs, hq, by rw [hr.len, enumD_len]; exact Nat.le_refl _⟩
def oList : List D → Option D
  | [.lst l] => some (.lst l)
  | [.tup l] => some (.lst l)
  | [.scr l] => some (.lst (l.map .int))
  | _ => none
def foH : List VF → VF
  | [f] => .uq f.dp
  | _ => .uq false
theorem calls_list : CallS G foH (fun xs H Q => ∃ p ys, xs = [.ref p] ∧ (SqL G.K H p ys ∨ SqT G.K H p ys) ∧ ∀ l, H l = none → Q (.ref l) (upd H l (.lst ys))) oList := by
  intro c O H fs ds vs z Q h e q
  match ds, e with
  | [.lst l], e =>
    cases e
    obtain ⟨f, v, rfl, rfl, a, xs, rfl, e1, r1⟩ := h.one
    exact ⟨a, xs, rfl, .inl (SqL.of e1), fun p hp => q.new p _ hp ⟨xs, rfl, r1⟩⟩
  | [.tup l], e =>
    cases e
    obtain ⟨f, v, rfl, rfl, a, xs, rfl, e1, r1⟩ := h.one
    exact ⟨a, xs, rfl, .inr e1, fun p hp => q.new p _ hp ⟨xs, rfl, r1⟩⟩
  | [.scr l], e =>
    cases e
    obtain ⟨f, v, rfl, rfl, a, rfl, e1⟩ := h.one
    exact ⟨a, _, rfl, .inl e1.sq, fun p hp => q.new p _ hp ⟨_, rfl, RL.ints l⟩⟩
theorem de_list (g : Gd G N sc k W X) {p pos : Pos} {e : Expr} {ea : En → Rs (List D)} (hm : G.mg "list" = none) (ha : PA X [e] (TAv G W F F1 [f] ea)) (hx : glbB sc "list" = true := by rfl) (he : starEach [e] X.env = [(false, eval e X.env)] := by rfl) :
    PE X (.Call (.Name "list" p) [e] [] pos) (TEv G W F F1 (.uq f.dp) (eBi oList ea)) :=
  de_callT g.toGv (fo := foH) (T := "list") (by rw [← g.K]; exact call_list_of) calls_list hm (by decide +kernel) ha hx (by decide) he rfl
def oTupl : List D → Option D
  | [.lst l] => some (.tup l)
  | [.tup l] => some (.tup l)
  | [.scr l] => some (.tup (l.map .int))
  | _ => none
def foS : List VF → VF
  | [f] => .sh f.dp
  | _ => .sh false
theorem calls_tuple : CallS G foS (fun xs H Q => ∃ p ys, xs = [.ref p] ∧ ((SqL G.K H p ys ∧ ∀ l, H l = none → Q (.ref l) (upd H l (.tup ys))) ∨ (SqT G.K H p ys ∧ Q (.ref p) H))) oTupl := by
  intro c O H fs ds vs z Q h e q
  match ds, e with
  | [.lst l], e =>
    cases e
    obtain ⟨f, v, rfl, rfl, a, xs, rfl, e1, r1⟩ := h.one
    exact ⟨a, xs, rfl, .inl ⟨SqL.of e1, fun p hp => q.new p _ hp ⟨xs, rfl, r1⟩⟩⟩
  | [.tup l], e =>
    cases e
    obtain ⟨f, v, rfl, rfl, a, xs, rfl, e1, r1⟩ := h.one
    exact ⟨a, xs, rfl, .inr ⟨e1, q.old _ ⟨a, xs, rfl, e1, r1⟩⟩⟩
  | [.scr l], e =>
    cases e
    obtain ⟨f, v, rfl, rfl, a, rfl, e1⟩ := h.one
    exact ⟨a, _, rfl, .inl ⟨e1.sq, fun p hp => q.new p _ hp ⟨_, rfl, RL.ints l⟩⟩⟩
theorem de_tuple (g : Gd G N sc k W X) {p pos : Pos} {e : Expr} {ea : En → Rs (List D)} (hm : G.mg "tuple" = none) (ha : PA X [e] (TAv G W F F1 [f] ea)) (hx : glbB sc "tuple" = true := by rfl) (he : starEach [e] X.env = [(false, eval e X.env)] := by rfl) :
    PE X (.Call (.Name "tuple" p) [e] [] pos) (TEv G W F F1 (.sh f.dp) (eBi oTupl ea)) :=
  de_callT g.toGv (fo := foS) (T := "tuple") (by rw [← g.K]; exact call_tuple_of) calls_tuple hm (by decide +kernel) ha hx (by decide) he rfl
def oRgL : Int → Int → Option D := fun i j => if bd62 i = true ∧ bd62 j = true ∧ (j - i).toNat ≤ 2 ^ 24 then some (.lst (irng i (j - i).toNat)) else none
theorem RL.rg {A : Addr → Prop} {H : Hp} (i j : Int) : RL G A H (irng i (j - i).toNat) (rgV i j) := by
  unfold irng rgV
  generalize (j - i).toNat = n
  have : ∀ l : List Nat, RL G A H (l.map fun z : Nat => D.int (i + z)) (l.map fun z : Nat => V.int (i + (z : Nat))) := fun l => by
    induction l with
    | nil => exact rfl
    | cons z l ih => exact RL.cons rfl ih
  exact this _
def eRgL2 (a b : EvE) : EvE := fun en => bnd (a en) fun x => bnd (b en) fun y => match x, y with
  | .int i, .int j => ofO (oRgL i j)
  | _, _ => .error .stuck
theorem rgL_core {i j : Int} {z : D} {Q : VK} (e : oRgL i j = some z) (ok : Ok G c F1 en own σ H) (q : ∀ v H' own', Ok G c F1 en own' σ H' → Same H H' → Sub (ow own) (ow own') H → RV G c own' H' (.uq true) z v → Q v H') :
    RgOk i j ∧ ∀ p, H p = none → Q (.ref p) (upd H p (.lst (rgV i j))) := by
  unfold oRgL at e
  split at e
  · rename_i h
    cases e
    obtain ⟨z1, z2⟩ := bd62_of h.1
    obtain ⟨z3, z4⟩ := bd62_of h.2.1
    exact ⟨⟨z1, z2, z3, z4, h.2.2⟩, fun p hp => (ok.kp (f := .uq true) (z := .lst (irng i (j - i).toNat)) q).new p _ hp ⟨_, rfl, RL.rg i j⟩⟩
  · cases e
theorem de_listR2 (g : Gd G N sc k W X) {a b : Expr} {p p2 pos pos2 : Pos} {ea eb : EvE} (hm : G.mg "list" = none) (hm2 : G.mg "range" = none) (ha : PE X a (TEv G W F F1 f ea)) (hb : PE X b (TEv G W F1 F2 f2 eb)) (hx : glbB sc "list" = true := by rfl) (hx2 : glbB sc "range" = true := by rfl) (na : starEach [a, b] X.env = (false, eval a X.env) :: starEach [b] X.env := by rfl) (nb : starEach [b] X.env = (false, eval b X.env) :: starEach [] X.env := by rfl) (hp : (backTo pos2 (starEach [b] X.env)).any (·.1) = false := by rfl)
    (nc : starEach [.Call (.Name "range" p2) [a, b] [] pos2] X.env = (false, eval (.Call (.Name "range" p2) [a, b] [] pos2) X.env) :: starEach [] X.env := by rfl) : PE X (.Call (.Name "list" p) [.Call (.Name "range" p2) [a, b] [] pos2] [] pos) (TEv G W F F2 (.uq true) (eRgL2 ea eb)) := by
  refine pe_imp (pe_listRg g.calm (glbB_gl hx g.sc) (by rw [g.mg]; exact hm) (prg_2 (glbB_gl hx2 g.sc) (by rw [g.mg]; exact hm2) ha hb na nb hp) nc) ?_
  rintro σ H Q ⟨c, en, own, ok, m⟩
  refine ⟨c, en, own, ok, m.bnd.imp fun d hd0 q v H1 own1 ok1 s1 b1 r1 => ⟨c, en, own1, ok1, q.bnd.imp fun d2 hd2 q2 v2 H2 own2 ok2 s2 b2 r2 => ?_⟩⟩
  clear hd0 hd2
  cases d <;> first | exact q2.elim | skip
  cases d2 <;> first | exact q2.elim | skip
  rename_i i j
  obtain ⟨z, ez, q3⟩ := q2.ofO
  exact ⟨i, j, r1.int, r2.int, rgL_core ez ok2 fun v H' own' ok' s' b' r' => q3 v H' own' ok' ((s1.trans s2).trans s') (sub_trans (sub_trans b1 s1 b2) (s1.trans s2) b') r'⟩
end
end Pi
namespace Pi
open PySem PySem.Spec PyProof.Rows L2
section
variable {G : Gb} {S : Se} {W : WX} {N : List Str} {sc scope : Scope} {k : Nat} {X : Cx} {F F1 F2 F3 F4 Fh : List SF} {Fo : List SF} {f f1 f2 : VF} {c : Fr} {en : En} {own own0 : Own} {σ : L2.St} {H H' H0 H1 : Hp}
structure Ccl (G : Gb) (c : Nat) (x : Str) (ks : List Str) : Prop where
  cls : Cls G.K (G.ca c)
  cf : G.cf c = ks
  nd : ks.Nodup
  na : ∀ f, f ∈ ks → NoAttr G.K (G.ca c) f
  gl : G.mg x = some (.ref (G.ca c))
theorem lookup_at {fs : List (Str × V)} : ∀ {ks : List Str} {j : Nat} {f : Str}, fs.map (·.1) = ks → ks.Nodup → ks[j]? = some f → fs.lookup f = (fs.map (·.2))[j]? := by
  induction fs with
  | nil => intro ks j f e _ h; subst e; simp at h
  | cons p fs ih =>
    intro ks j f e nd h
    subst e
    obtain ⟨g, v⟩ := p
    simp only [List.map_cons] at nd h ⊢
    cases j with
    | zero =>
      simp at h
      subst h
      simp [List.lookup]
    | succ j =>
      have h' : (fs.map (·.1))[j]? = some f := by simpa using h
      have ne : ¬ f = g := fun e => (List.nodup_cons.mp nd).1 (by rw [← e]; exact List.mem_of_getElem? h')
      have ne' : (f == g) = false := by simpa using ne
      rw [List.lookup, ne']
      simpa using ih rfl (List.nodup_cons.mp nd).2 h'
theorem lookup_no {fs : List (Str × V)} {m : Str} (h : m ∉ fs.map (·.1)) : fs.lookup m = none := by
  induction fs with
  | nil => rfl
  | cons p fs ih =>
    obtain ⟨g, v⟩ := p
    simp only [List.map_cons, List.mem_cons, not_or] at h
    have : (m == g) = false := by simpa using h.1
    rw [List.lookup, this]
    exact ih h.2
theorem putF_new {f : Str} {v : V} : ∀ {fs : List (Str × V)}, f ∉ fs.map (·.1) → putF f v fs = fs ++ [(f, v)]
  | [], _ => rfl
  | (g, x) :: r, h => by
    simp only [List.map_cons, List.mem_cons, not_or] at h
    rw [putF, if_neg (fun e => h.1 e.symm), putF_new h.2]
    rfl
theorem putF_at {f : Str} {v : V} : ∀ {fs : List (Str × V)} {j : Nat}, (fs.map (·.1)).Nodup → (fs.map (·.1))[j]? = some f → (putF f v fs).map (·.1) = fs.map (·.1) ∧ (putF f v fs).map (·.2) = (fs.map (·.2)).set j v
  | [], j, _, h => by simp at h
  | (g, x) :: r, 0, nd, h => by
    simp at h
    subst h
    rw [putF, if_pos rfl]
    exact ⟨rfl, rfl⟩
  | (g, x) :: r, j + 1, nd, h => by
    simp only [List.map_cons] at nd h
    have h' : (r.map (·.1))[j]? = some f := by simpa using h
    have ne : ¬ g = f := fun e => (List.nodup_cons.mp nd).1 (by rw [e]; exact List.mem_of_getElem? h')
    obtain ⟨q1, q2⟩ := putF_at (v := v) (List.nodup_cons.mp nd).2 h'
    rw [putF, if_neg ne]
    exact ⟨by simp [q1], by simp [q2]⟩
def eFld (c j : Nat) (a : EvE) : EvE := fun en => bnd (a en) fun d => match d with
  | .obj c' l => if c' = c then ofO l[j]? else .error .stuck
  | _ => .error .stuck
theorem de_fld (g : Gv G N sc X) {c0 j : Nat} {x f : Str} {ks : List Str} (C : Ccl G c0 x ks) {o : Expr} {pos : Pos} {eo : EvE} {fv : VF} (he : PE X o (TEv G W F F1 fv eo)) (hj : ks[j]? = some f := by rfl) (hb : attributeBase o f X.env (eval o X.env) = eval o X.env := by rfl) : PE X (.Attribute o f pos) (TEv G W F F1 (.sh fv.dp) (eFld c0 j eo)) := by
  refine pe_imp (pe_fld he hb) ?_
  rintro σ H Q ⟨c, en, own, ok, m⟩
  refine ⟨c, en, own, ok, m.bnd.imp fun d hd0 q v H1 own1 ok1 s1 b1 r1 => ?_⟩
  clear hd0
  cases d <;> first | exact q.elim | skip
  rename_i c' l
  dsimp only at q
  split at q
  · rename_i hc
    subst hc
    obtain ⟨d', ed, q⟩ := q.ofO
    obtain ⟨a, dx, fs, rfl, e1, e2, r⟩ := r1.b
    rw [C.cf] at e2
    have hlen : fs.length = l.length := by rw [← r.len]; simp
    have nd2 : (ks.take l.length).Nodup := C.nd.sublist (List.take_sublist _ _)
    have hjl : j < l.length := (List.getElem?_eq_some_iff.mp ed).1
    obtain ⟨w, hw, rw'⟩ := r.get ed
    refine ⟨a, G.ca c', dx, fs, w, rfl, e1, by rw [g.K]; exact C.cls, by rw [g.K]; exact C.na f (List.mem_of_getElem? hj), ?_, q w H1 own1 ok1 s1 b1 rw'⟩
    rw [lookup_at e2 nd2 (j := j) (f := f) (by rw [List.getElem?_take_of_lt hjl]; exact hj)]
    exact hw
  · exact q.elim
structure MetC (G : Gb) (j : Nat) (c : Nat) (m : Str) (md : Bool) (n : Nat) (fn : List D → Rs D) : Prop where
  ex : ∃ (f : Addr) (fd : FuncData) (ps : List Str), Meth G.K (G.ca c) m f ∧ FnOk G.P G.w G.K G.mg G.base (L2.CX G.P G.w) j f fd ps (spF G md (n + 1) fn) ∧ Binds G.K fd ps []
def tMethS (C : Addr) (m : Str) (sp : Sp) (E : L2.St → XK) (ta : TE) (t : TA) : TE := fun σ H Q => ta σ H fun x H1 => ∃ a dx fs, x = .ref a ∧ H1 a = some (.ins C dx fs) ∧ fs.lookup m = none ∧
  t σ H1 fun vs H2 => sp (x :: vs) H2 Q (E σ)
theorem pe_methSd {X : Cx} {CX : CXT} {k : Nat} {C f : Addr} {fd : FuncData} {ps : List Str} {m : Str} {sp : Sp} {E : L2.St → XK} {o e : Expr} {es : List Expr} {ta : TE} {t : TA} {apos pos : Pos} {pl : Sem Bool} (he : PE X o ta) (c : Cls X.K C) (hm : Meth X.K C m f) (F : FnOk X.prog X.w X.K X.mg X.base CX k f fd ps sp) (hr : Room k X.A) (hb : Binds X.K fd ps []) (hx : ∀ σ, PassesAt CX X σ (E σ)) (ha : PA X (e :: es) t)
    (hst : starEach (e :: es) X.env = (false, eval e X.env) :: starEach es X.env := by rfl) (hpl : (backTo pos (starEach es X.env)).any (·.1) = false := by rfl)
    (ht : eval (.Call (.Attribute o m apos) (e :: es) [] pos) X.env = (do
      let ov ← eval o X.env
      standAt apos.atName
      let (f, first) ← holding [ov] (getMethod ov m pl)
      callWith pos f first (backTo pos (starEach (e :: es) X.env)) (backToKw pos (keywordEach [] X.env))) := by rfl) :
    PE X (.Call (.Attribute o m apos) (e :: es) [] pos) (tMethS C m sp E ta t) := by
  refine ⟨fun pins s σ H Q I h => ?_⟩
  refine PySem.W.methodCall_KW (pl := pl) (thn (he.run pins s σ H _ I h) fun u s1 ⟨x, H1, I1, rx, a, dx, fs, ex, ea, l, q⟩ => ?_) ht
  subst ex
  obtain rfl : u = Value.ref a := rx
  refine getmeth_ok I1 ea c hm l ?_
  refine PySem.W.callWith_K (first := [.ref a]) (h₀ := X.base) I.ok.mod.kin hm.kp (thn (ha.run pos pins s1 σ H1 _ I1 q) fun us s2 ⟨vs, H2, I2, r, q2⟩ => ⟨I2.kIn, ?_⟩) hst hpl
  exact run_fnS (us := .ref a :: us) (vs := .ref a :: vs) F hr hb (hx σ) I2 (.cons rfl r) q2
theorem pe_methSd0 {X : Cx} {CX : CXT} {k : Nat} {C f : Addr} {fd : FuncData} {ps : List Str} {m : Str} {sp : Sp} {E : L2.St → XK} {o : Expr} {ta : TE} {apos pos : Pos} {pl : Sem Bool} (he : PE X o ta) (c : Cls X.K C) (hm : Meth X.K C m f) (F : FnOk X.prog X.w X.K X.mg X.base CX k f fd ps sp) (hr : Room k X.A) (hb : Binds X.K fd ps []) (hx : ∀ σ, PassesAt CX X σ (E σ))
    (ht : eval (.Call (.Attribute o m apos) [] [] pos) X.env = (do
      let ov ← eval o X.env
      standAt apos.atName
      let (f, first) ← holding [ov] (getMethod ov m pl)
      callWith pos f first (backTo pos (starEach [] X.env)) (backToKw pos (keywordEach [] X.env))) := by rfl) :
    PE X (.Call (.Attribute o m apos) [] [] pos) (tMethS C m sp E ta tNil) := by
  refine ⟨fun pins s σ H Q I h => ?_⟩
  refine PySem.W.methodCall_KW (pl := pl) (thn (he.run pins s σ H _ I h) fun u s1 ⟨x, H1, I1, rx, a, dx, fs, ex, ea, l, q⟩ => ?_) ht
  subst ex
  obtain rfl : u = Value.ref a := rx
  refine getmeth_ok I1 ea c hm l ?_
  exact PySem.W.callWith_K0 (first := [.ref a]) I1.kIn hm.kp (run_fnS (us := [.ref a]) (vs := [.ref a]) F hr hb (hx σ) I1 (.cons rfl .nil) q)
def eMeth (c : Nat) (fn : List D → Rs D) (o : EvE) (a : En → Rs (List D)) : EvE := fun en => bnd (o en) fun d => match d with
  | .obj c' l => if c' = c then bnd (a en) fun ds => fn (.obj c' l :: ds) else .error .stuck
  | _ => .error .stuck
theorem meth_core {c0 : Nat} {x m : Str} {ks : List Str} {md : Bool} {n : Nat} {fn : List D → Rs D} {f0 : VF} {fs : List VF} {eo : EvE} {ea : En → Rs (List D)} (C : Ccl G c0 x ks) (hm : m ∉ ks) (hn : fs.length = n) (ha : okArgs md (f0 :: fs) = true) {ta : TE} {t : TA} (h1 : ∀ σ H Q, TEv G W F F1 f0 eo σ H Q → ta σ H Q) (h2 : ∀ σ H Q, TAv G W F1 F2 fs ea σ H Q → t σ H Q) :
    ∀ σ H Q, TEv G W F F2 (VF.ret md) (eMeth c0 fn eo ea) σ H Q → tMethS (G.ca c0) m (spF G md (n + 1) fn) (WE W) ta t σ H Q := by
  rintro σ H Q ⟨c, en, own, ok, m'⟩
  refine h1 _ _ _ ⟨c, en, own, ok, m'.bnd.imp fun d hd0 q v H1 own1 ok1 s1 b1 r1 => ?_⟩
  clear hd0
  cases d <;> first | exact q.elim | skip
  rename_i c' l
  dsimp only at q
  split at q
  · rename_i hc
    subst hc
    obtain ⟨a, dx, fs', rfl, e1, e2, r⟩ := id r1.b
    rw [C.cf] at e2
    obtain ⟨own1', ok1', k1, a1⟩ := RV.arg ok1 r1
    refine ⟨a, dx, fs', rfl, e1, lookup_no (fun z => hm (by rw [e2] at z; exact List.take_subset _ _ z)), h2 _ _ _ ⟨c, en, own1', ok1', q.bnd.imp fun ds _ q vs H2 own2 ok2 s2 b2 r2 => ?_⟩⟩
    have b1' : Sub (ow own) (ow own1') H := fun a h => b1 a (k1 a h)
    have hv : RVL G c (ow own2) H2 (f0 :: fs) (.obj c' l :: ds) (.ref a :: vs) := ⟨_, _, _, _, rfl, rfl, a1.up s2 b2, r2⟩
    refine ⟨by simp [r2.len.2, hn], .obj c' l :: ds, if md = true then fun _ => True else Av c (ow own2) false, ?_, ?_⟩
    · cases md with
      | true => exact hv.any
      | false => exact (hv.rl (by simpa [okArgs] using ha)).an fun a z => z.undp
    · cases e : fn (.obj c' l :: ds) with
      | ok d =>
        rw [e] at q
        intro v H3 s3 r3
        have r3' : RRet G md (Av c (ow own2) false) H2 H3 d v := by cases md <;> exact r3
        obtain ⟨own3, ok3, b3, rv⟩ := ok2.back s3 r3'
        exact q v H3 own3 ok3 ((s1.trans s2).trans s3) (sub_trans (sub_trans b1' s1 b2) (s1.trans s2) b3) rv
      | error x =>
        rw [e] at q
        cases x with
        | stuck => exact q.elim
        | raise x => exact fun H3 s3 => q H3 fun b o nb e => s3 _ _ (ok2.same b o nb e)
  · exact q.elim
theorem de_meth (g : Gd G N sc k W X) {j c0 : Nat} {x m : Str} {ks : List Str} {md : Bool} {n : Nat} {fn : List D → Rs D} {f0 : VF} {fs : List VF} {eo : EvE} {ea : En → Rs (List D)} {o e : Expr} {es : List Expr} {apos pos : Pos} {pl : Sem Bool} (C : Ccl G c0 x ks) (M : MetC G j c0 m md n fn) (he : PE X o (TEv G W F F1 f0 eo)) (ha : PA X (e :: es) (TAv G W F1 F2 fs ea))
    (hj : j ≤ k := by decide) (hm : m ∉ ks := by decide) (hn : fs.length = n := by rfl) (hok : okArgs md (f0 :: fs) = true := by rfl) (hst : starEach (e :: es) X.env = (false, eval e X.env) :: starEach es X.env := by rfl) (hpl : (backTo pos (starEach es X.env)).any (·.1) = false := by rfl)
    (ht : eval (.Call (.Attribute o m apos) (e :: es) [] pos) X.env = (do
      let ov ← eval o X.env
      standAt apos.atName
      let (f, first) ← holding [ov] (getMethod ov m pl)
      callWith pos f first (backTo pos (starEach (e :: es) X.env)) (backToKw pos (keywordEach [] X.env))) := by rfl) :
    PE X (.Call (.Attribute o m apos) (e :: es) [] pos) (TEv G W F F2 (VF.ret md) (eMeth c0 fn eo ea)) := by
  obtain ⟨fa, fd, ps, hM, hF, hb⟩ := M.ex
  exact pe_imp (pe_methSd (pl := pl) he (by rw [g.K]; exact C.cls) (by rw [g.K]; exact hM) (g.fnOk hF) (g.room.mono hj) (by rw [g.K]; exact hb) (fun σ => passAt g.tk σ) ha hst hpl ht) (meth_core C hm hn hok (fun _ _ _ z => z) fun _ _ _ z => z)
theorem de_meth0 (g : Gd G N sc k W X) {j c0 : Nat} {x m : Str} {ks : List Str} {md : Bool} {fn : List D → Rs D} {f0 : VF} {eo : EvE} {o : Expr} {apos pos : Pos} {pl : Sem Bool} (C : Ccl G c0 x ks) (M : MetC G j c0 m md 0 fn) (he : PE X o (TEv G W F F1 f0 eo))
    (hj : j ≤ k := by decide) (hm : m ∉ ks := by decide) (hok : okArgs md [f0] = true := by rfl)
    (ht : eval (.Call (.Attribute o m apos) [] [] pos) X.env = (do
      let ov ← eval o X.env
      standAt apos.atName
      let (f, first) ← holding [ov] (getMethod ov m pl)
      callWith pos f first (backTo pos (starEach [] X.env)) (backToKw pos (keywordEach [] X.env))) := by rfl) :
    PE X (.Call (.Attribute o m apos) [] [] pos) (TEv G W F F1 (VF.ret md) (eMeth c0 fn eo aNil)) := by
  obtain ⟨fa, fd, ps, hM, hF, hb⟩ := M.ex
  exact pe_imp (pe_methSd0 (pl := pl) he (by rw [g.K]; exact C.cls) (by rw [g.K]; exact hM) (g.fnOk hF) (g.room.mono hj) (by rw [g.K]; exact hb) (fun σ => passAt g.tk σ) ht) (meth_core C hm rfl hok (fun _ _ _ z => z) fun σ H Q z => (by
    obtain ⟨c, en, own, ok, m⟩ := z
    exact m [] H own ok (Same.refl H) sub_refl ⟨rfl, rfl⟩))
def endO : Option (Option D) → Rs D
  | some (some (.obj c l)) => .ok (.obj c l)
  | _ => .error .stuck
def endI : Rs Fl → Rs D
  | .ok (.nx en) => endO en[0]?
  | .ok _ => .error .stuck
  | .error e => .error e
def runI (c m : Nat) (st : EvS) (ds : List D) : Rs D := endI (st (some (.obj c []) :: (ds.map some ++ List.replicate m none)))
def Fr.ini (H : Hp) (A0 : Addr → Prop) (x : Addr) : Fr := ⟨H, A0, fun a => a = x, fun _ => none, fun _ => none⟩
def Own.ini (x : Addr) : Own := ⟨fun i => if i = 0 then [x] else [], fun _ => False⟩
def tMakeS (C : Addr) (sp : Sp) (E : L2.St → XK) (t : TA) : TE := fun σ H Q => t σ H fun vs H1 => ∀ x dx, H1 x = none → H1 dx = none → dx ≠ x →
  sp (.ref x :: vs) (upd (upd H1 dx (.own x)) x (.ins C dx [])) (fun v H2 => v = .non ∧ Q (.ref x) H2) (E σ)
theorem run_makeSd {X : Cx} {CX : CXT} {k : Nat} {C f : Addr} {fd : FuncData} {ps : List Str} {sp : Sp} {E : L2.St → XK} {pins : List (Addr × Obj)} {σ : L2.St} {H : Hp} {s : Shared} {Q : VK} {us : List Value} {vs : List V} (M : Mk X.K C f) (F : FnOk X.prog X.w X.K X.mg X.base CX k f fd ps sp) (hr : Room (k + 1) X.A) (hb : Binds X.K fd ps [])
    (hx : PassesAt CX X σ (E σ)) (I : Inv X pins σ H s) (r : Vals vs us)
    (h : ∀ x dx, H x = none → H dx = none → dx ≠ x → sp (.ref x :: vs) (upd (upd H dx (.own x)) x (.ins C dx [])) (fun v H2 => v = .non ∧ Q (.ref x) H2) (E σ)) :
    wpAny (model X.prog X.w) X.A (call (.ref C) us) (EP X pins σ Q) X.xe s := by
  have hq := h (s.heap.objs.size + 1) s.heap.objs.size (I.hok.fresh (Nat.le_succ _)) (I.hok.fresh (Nat.le_refl _)) (Nat.ne_of_lt (Nat.lt_succ_self _))
  have I2 := Inv.made (C := C) I
  have r2 : Vals (V.ref (s.heap.objs.size + 1) :: vs) (Value.ref (s.heap.objs.size + 1) :: us) := .cons rfl r
  have hl : ((Value.ref (s.heap.objs.size + 1) :: us) ++ ([] : List Value)).length = ps.length := by
    have e := r2.length
    rw [F.len _ _ _ _ hq] at e
    simpa using e.symm
  have bz := hb { s with heap := (s.heap.push PySem.W.emptyDict).push (PySem.W.instObj C s.heap.objs.size) } (Value.ref (s.heap.objs.size + 1) :: us) I2.kIn hl
  rw [List.append_nil] at bz
  refine wpAny_call (make_map (f := f) I.kIn M.makes M.init (beq_iff_eq.mp M.fn) (codeAny_mono (F.run _ X.stack _ _ ⟨Value.ref (s.heap.objs.size + 1) :: us, []⟩ (Value.ref (s.heap.objs.size + 1) :: us) _ _ (E σ) (hr.make C us [])
    (I2.env0.make C us []) bz r2 hq) fun r s' hq' => ?_))
  cases r with
  | error e => exact hx pins _ _ e s' I2 hq'
  | ok fl =>
    cases fl with
    | ret u =>
      obtain ⟨v, H', I3, rv, ev, q3⟩ := I2.after hq'
      subst ev
      exact ⟨rv, ⟨V.ref (s.heap.objs.size + 1), H', I3, rfl, q3⟩⟩
    | next => exact False.elim hq'
    | brk => exact False.elim hq'
    | cont => exact False.elim hq'
theorem pe_makeSd {X : Cx} {CX : CXT} {k : Nat} {C f : Addr} {fd : FuncData} {ps : List Str} {sp : Sp} {E : L2.St → XK} {x : Str} {p pos : Pos} {e : Expr} {es : List Expr} {t : TA} (M : Mk X.K C f) (F : FnOk X.prog X.w X.K X.mg X.base CX k f fd ps sp) (hr : Room (k + 1) X.A) (hg : Gl X x) (hm : X.mg x = some (.ref C)) (hb : Binds X.K fd ps []) (hx : ∀ σ, PassesAt CX X σ (E σ))
    (ha : PA X (e :: es) t) (hdb : (x == ("__debug__" : Str)) = false := by decide) (he : starEach (e :: es) X.env = (false, eval e X.env) :: starEach es X.env := by rfl) (hpl : (backTo pos (starEach es X.env)).any (·.1) = false := by rfl) :
    PE X (.Call (.Name x p) (e :: es) [] pos) (tMakeS C sp E t) := by
  refine ⟨fun pins s σ H Q I h => ?_⟩
  refine wpAny_Call_Name_kw (ld_glob I hg hm ?_ hdb)
  refine PySem.W.callWith_K (h₀ := X.base) I.ok.mod.kin M.kp (thn (ha.run pos pins s σ H _ I h) fun us s1 ⟨vs, H1, I1, r, q⟩ => ⟨I1.kIn, ?_⟩) he hpl
  exact run_makeSd M F hr hb (hx σ) I1 r q
def setD (l : List D) (j : Nat) (d : D) : List D := if j = l.length then l ++ [d] else l.set j d
def sSetf (i c j : Nat) (ev : EvE) : EvS := fun en => bnd (ev en) fun d => match en[i]? with
  | some (some (.obj c' l)) => if c' = c ∧ j ≤ l.length then .ok (.nx (en.set i (some (.obj c (setD l j d))))) else .error .stuck
  | _ => .error .stuck
end
end Pi
namespace Pi
open PySem PySem.Spec PyProof.Rows L2
section
variable {G : Gb} {S : Se} {W : WX} {N : List Str} {sc scope : Scope} {k : Nat} {X : Cx} {F F1 F2 F3 F4 Fh : List SF} {Fo : List SF} {f f1 f2 : VF} {c : Fr} {en : En} {own own0 : Own} {σ : L2.St} {H H' H0 H1 : Hp}
theorem sw_sub {a b a' b' e : Expr} {p p' tp : Pos} {n : Nat} {env : Env} : swappedStores [.Tuple [.Subscript a b p, .Subscript a' b' p'] n tp] e env = pure none := by
  unfold swappedStores
  cases e <;> first | rfl | skip
  rename_i vs m q
  simp only [List.filterMap_cons_none, List.filterMap_nil, List.length_cons, List.length_nil]
  split
  · rfl
  · split
    · rfl
    · rfl
def subL (i : Nat) (ek : EvE) (d : D) (en : En) : Rs En := bnd (getL i en) fun l => bnd (ek en) fun kd => match kd with
  | .int j => match ixN l.length j with
    | some n => .ok (en.set i (some (.lst (l.set n d))))
    | none => .error .stuck
  | _ => .error .stuck
def sSw (i : Nat) (ev ek ek2 : EvE) : EvS := fun en => bnd (ev en) fun t => match t with
  | .tup [d1, d2] => bnd (subL i ek d1 en) fun en1 => bnd (subL i ek2 d2 en1) fun en2 => .ok (.nx en2)
  | _ => .error .stuck
theorem sub_step {i : Nat} {dp dv : Bool} {d : D} {v : V} {ek : EvE} {ti : TE} {Q : L2.St → Hp → Prop} (ok : Ok G c F en own σ H) (hf : F[i]? = some (.o dp)) (hv : R G (Av c (ow own) dv) H d v) (ht : ∀ σ H Q, TEv G W F F f2 ek σ H Q → ti σ H Q)
    (hm : MtS G W c (subL i ek d en) fun en' => ∀ H' own', Ok G c (F.set i (.o (dp && dv))) en' own' σ H' → (∀ d' v' e, R G (Av c (ow own) e) H d' v' → R G (Av c (ow own') e) H' d' v') → Q σ H') :
    gSub (tVar i) ti (fun o k v H Q => ∃ p xs j n, o = .ref p ∧ k = .int j ∧ H p = some (.lst xs) ∧ ixN xs.length j = some n ∧ Q (upd H p (.lst (xs.set n v)))) v σ H Q := by
  obtain ⟨l, hl, hm⟩ := getL_ok hm.bnd
  obtain ⟨p, xs, e1, e2, e3, e4⟩ := ok.ownL hf hl
  refine ⟨.ref p, e1, ht _ _ _ ⟨c, en, own, ok, hm.bnd.e.imp fun kd hkd q v2 H2 own2 ok2 s2 b2 r2 => ?_⟩⟩
  clear hkd
  obtain ⟨p', xs', e1', e2', e3', e4'⟩ := ok2.ownL hf hl
  have ep := sig_inj e1 e1'
  subst ep
  cases kd <;> first | exact q.elim | skip
  rename_i j
  dsimp only at q
  split at q
  · rename_i n hj
    have nA : ∀ b, ¬ Av c (ow own2) b p := fun b z => z.1 (.inl ⟨i, by rw [e2']; simp⟩)
    refine ⟨p, xs', j, n, rfl, r2.int, e3', by rw [e4'.len]; exact hj, q _ own2 (ok2.wrL (dp' := dp && dv) hf e2' e3' e1' (RL.set n ?_ ?_)) fun d' v' e h => R.up (Up.write e3' trivial (nA e)) _ (R.up (Up.grow s2 b2 (by cases e <;> rfl)) _ h)⟩
    · exact RL.up (Up.sub (fun _ h => h) (by cases dp <;> cases dv <;> rfl)) _ e4'
    · exact R.up (Up.grow s2 b2 (by cases dp <;> cases dv <;> rfl)) _ hv
  · exact q.elim
theorem ds_swap (g : Gs G N sc k S.W X) (i : Nat) {x : Str} {e ix ix2 : Expr} {px px2 sp sp2 tp pos : Pos} {n : Nat} {ev ek ek2 : EvE} {dp : Bool} (he : PE X e (TEv G S.W F F1 f ev)) (hi : PE X ix (TEv G S.W F1 F1 f1 ek)) (hi2 : PE X ix2 (TEv G S.W (F1.set i (.o (dp && f.dp))) (F1.set i (.o (dp && f.dp))) f2 ek2)) (hN : N[i]? = some x := by rfl) (hv : visB sc x = true := by rfl) (hx : nameB x = true := by rfl) (hf : F1[i]? = some (.o dp) := by rfl)
    (hs : swapsWithSole [.Tuple [.Subscript (.Name x px) ix sp, .Subscript (.Name x px2) ix2 sp2] n tp] e pos.line X.env = pure false := by rfl)
    (ha : ∀ v, assign (.Subscript (.Name x px) ix sp) X.env v = (do
      let ov ← holding [v] (eval (.Name x px) X.env)
      let iv ← holding [v, ov] (eval ix X.env)
      standAt sp
      holding [v, ov, iv] (setItem ov iv v)
      release [v, ov, iv] []) := by intro _; rfl)
    (ha2 : ∀ v, assign (.Subscript (.Name x px2) ix2 sp2) X.env v = (do
      let ov ← holding [v] (eval (.Name x px2) X.env)
      let iv ← holding [v, ov] (eval ix2 X.env)
      standAt sp2
      holding [v, ov, iv] (setItem ov iv v)
      release [v, ov, iv] []) := by intro _; rfl)
    (hl1 : (assignEach [.Subscript (.Name x px) ix sp, .Subscript (.Name x px2) ix2 sp2] X.env).length = 2 := by rfl) (hl2 : (assignEach [.Subscript (.Name x px) ix sp, .Subscript (.Name x px2) ix2 sp2] X.env).findIdx? (·.1) = none := by rfl)
    (hc1 : (assignEach [.Subscript (.Name x px) ix sp, .Subscript (.Name x px2) ix2 sp2] X.env).map (·.2) = assign (.Subscript (.Name x px) ix sp) X.env :: (assignEach [.Subscript (.Name x px2) ix2 sp2] X.env).map (·.2) := by rfl) (hc2 : (assignEach [.Subscript (.Name x px2) ix2 sp2] X.env).map (·.2) = assign (.Subscript (.Name x px2) ix2 sp2) X.env :: (assignEach [] X.env).map (·.2) := by rfl) :
    PS X (.Assign [.Tuple [.Subscript (.Name x px) ix sp, .Subscript (.Name x px2) ix2 sp2] n tp] e pos) (TSv G S F (F1.set i (.o (dp && f.dp))) (sSw i ev ek ek2)) := by
  obtain ⟨h1, h2, _⟩ := nameB_d hx
  have pv : ∀ p, PE X (.Name x p) (tVar i) := fun p => pe_var (i := i) (by rw [g.g.nN]; exact hN) (visB_vis hv g.g.sc) h1 h2
  refine ps_imp (ps_asg he (pg_tup (n := 2) g.g.calm (pgs_cons (pg_sub (pv px) hi set_list ha) (pgs_cons (pg_sub (pv px2) hi2 set_list ha2) pgs_nil hc2) hc1) hl1 hl2) hs sw_sub rfl) ?_
  rintro D σ H ⟨c, en, own, ok, m⟩
  refine ⟨c, en, own, ok, m.bnd.e.imp fun d hd0 q v H1 own1 ok1 s1 b1 r1 => ?_⟩
  clear hd0
  match d, q, r1 with
  | .tup [d1, d2], q, r1 =>
    obtain ⟨a, xs, rfl, hq, v1, r, rfl, ra, v2, r', rfl, rb, rr⟩ := r1.b
    obtain rfl : r' = [] := rr
    have F2i : (F1.set i (SF.o (dp && f.dp)))[i]? = some (.o (dp && f.dp)) := List.getElem?_set_self (List.getElem?_eq_some_iff.mp hf).1
    refine ⟨a, _, rfl, by rw [g.g.K]; exact hq, rfl, v1, [v2], rfl, sub_step ok1 hf ra (fun _ _ _ z => z) ((MtS.bnd q).imp fun en1 _ q H2 own2 ok2 k2 => ?_)⟩
    refine ⟨v2, [], rfl, sub_step (F := F1.set i (.o (dp && f.dp))) ok2 F2i (k2 _ _ _ rb) (fun _ _ _ z => z) ((MtS.bnd q).imp fun en2 _ q H3 own3 ok3 _ => ⟨rfl, ?_⟩)⟩
    rw [List.set_set, Bool.and_assoc, Bool.and_self] at ok3
    exact q σ H3 own3 ok3
def sClr (i : Nat) : EvS := fun en => bnd (getL i en) fun _ => .ok (.nx (en.set i (some (.lst []))))
def sRev (i : Nat) : EvS := fun en => bnd (getL i en) fun l => .ok (.nx (en.set i (some (.lst l.reverse))))
theorem ds_clr (g : Gv G N sc X) (i : Nat) {x : Str} {px apos cpos pos : Pos} {dp : Bool} (hN : N[i]? = some x := by rfl) (hv : visB sc x = true := by rfl) (hx : nameB x = true := by rfl) (hf : F[i]? = some (.o dp) := by rfl) (hline : (apos.endLine == cpos.line) = true := by rfl) :
    PS X (.Expr (.Call (.Attribute (.Name x px) "clear" apos) [] [] cpos) pos) (TSv G S F (F.set i (.o true)) (sClr i)) := by
  obtain ⟨h1, h2, _⟩ := nameB_d hx
  refine ps_imp (ps_expr (pe_bm0 PySem.F.plainAttrs_list PySem.F.slot_list_clear PySem.F.type_list_clear mt_clear (pe_var (i := i) (by rw [g.nN]; exact hN) (visB_vis hv g.sc) h1 h2) rfl hline) rfl) ?_
  rintro D σ H ⟨c, en, own, ok, m⟩
  obtain ⟨l, hl, m⟩ := getL_ok m.bnd
  obtain ⟨p, xs, e1, e2, e3, e4⟩ := ok.ownL hf hl
  exact ⟨.ref p, e1, .inl ⟨rfl, xs, SqL.of e3⟩, p, xs, rfl, rfl, e3, m σ _ own (ok.wrL (dp' := true) hf e2 e3 e1 RL.nil)⟩
theorem ds_rev (g : Gv G N sc X) (i : Nat) {x : Str} {px apos cpos pos : Pos} {dp : Bool} (hN : N[i]? = some x := by rfl) (hv : visB sc x = true := by rfl) (hx : nameB x = true := by rfl) (hf : F[i]? = some (.o dp) := by rfl) (hline : (apos.endLine == cpos.line) = true := by rfl) :
    PS X (.Expr (.Call (.Attribute (.Name x px) "reverse" apos) [] [] cpos) pos) (TSv G S F (F.set i (.o dp)) (sRev i)) := by
  obtain ⟨h1, h2, _⟩ := nameB_d hx
  refine ps_imp (ps_expr (pe_bm0 PySem.F.plainAttrs_list PySem.F.slot_list_reverse PySem.F.type_list_reverse mt_reverse (pe_var (i := i) (by rw [g.nN]; exact hN) (visB_vis hv g.sc) h1 h2) rfl hline) rfl) ?_
  rintro D σ H ⟨c, en, own, ok, m⟩
  obtain ⟨l, hl, m⟩ := getL_ok m.bnd
  obtain ⟨p, xs, e1, e2, e3, e4⟩ := ok.ownL hf hl
  exact ⟨.ref p, e1, .inl ⟨rfl, xs, SqL.of e3⟩, p, xs, rfl, rfl, e3, m σ _ own (ok.wrL (dp' := dp) hf e2 e3 e1 e4.rev)⟩
def sTry0 (isC : Nat → Bool) (bx : En → Rs Unit) (hd : EvS) : EvS := fun en => match bx en with
  | .ok _ => .ok (.nx en)
  | .error (.raise e) => if isC e = true then (match hd en with
    | .ok (.nx en') => .ok (.nx en')
    | .ok (.rt d) => .ok (.rt d)
    | _ => .error .stuck) else .error (.raise e)
  | .error .stuck => .error .stuck
theorem ds_try0 (g : Gs G N sc k S.W X) {xs : List Str} {cs : List Cl} (K : Xk G xs cs) (y : Cl) {np pos pos' : Pos} {body suite : List Stmt} {b₀ : Stmt} {bx : En → Rs Unit} {hd : EvS}
    (hb : ∀ (X' : Cx) (W' : WX), Gs G N sc k W' X' → PSs X' body (TXv G W' (Fsh F) bx))
    (hsu : ∀ (X' : Cx), Gv G N sc X' → (∀ x, X'.fn x = true) → PSs X' (b₀ :: suite) (TSv G ⟨S.md, fun _ _ _ _ => False, []⟩ F Fo hd))
    (hw : wkL F Fo = true := by rfl) (hy : y ∈ cs := by decide) (hx2 : glbB sc y.nm = true := by rfl) (hn : nameB y.nm = true := by rfl) :
    PS X (.Try body [.ExceptHandler (some (.Name y.nm np)) none (b₀ :: suite) pos'] [] [] pos) (TSv G S F Fo (sTry0 (fun e => isxS (xnm xs e) y) bx hd)) := by
  obtain ⟨n1, n2, n3⟩ := nameB_d hn
  have nmz : Names X y.nm (y.u G) := by
    refine ⟨glbB_gl hx2 g.g.sc, n1, ?_⟩
    cases y with
    | own x => exact .inl (by rw [g.g.mg]; exact K.gl x hy)
    | ty m => exact .inr ⟨by rw [g.g.mg]; exact (K.ty m hy).1, (K.ty m hy).2, n3⟩
  refine ps_imp (ps_try_only (c := y.u G) (tb := fun W => TXv G W (Fsh F) bx) (ts := fun a cls d D σ H => TSv G ⟨S.md, fun _ _ _ _ => False, []⟩ F Fo hd D σ H) (Wout := S.W) g.stk g.frm nmz g.g.tk
    (fun W pn xe tk po => hb _ _ (g.tr tk po)) (fun a oe cls d pn hz hf => hsu _ g.su g.fn)) ?_
  rintro D σ H ⟨c, en, own, ok, m⟩
  refine ⟨Fr.new H fun _ => True, en, Own.new, try_ok ok, ?_⟩
  unfold sTry0 at m
  cases q : bx en with
  | ok u =>
    rw [q] at m
    intro H' s
    obtain ⟨own', ok', _⟩ := (ok.grow s).weak hw
    exact m σ H' own' ok'
  | error er =>
    rw [q] at m
    cases er with
    | stuck => exact m
    | raise e =>
      intro H' sm
      have s : Same H H' := fun b o z => sm b o id z
      refine ⟨isxS (xnm xs e) y, by rw [g.g.K]; exact K.exm e y hy, fun hb a na => ⟨c, en, own, ok.grow s, ?_⟩, fun hb => ?_⟩
      · have m2 : MtS G S.W c (match hd en with
          | .ok (.nx en') => .ok (.nx en')
          | .ok (.rt d) => .ok (.rt d)
          | _ => .error .stuck) (Aft G S c Fo D) := by
          have m3 := m
          dsimp only at m3
          rw [if_pos hb] at m3
          exact m3
        cases q2 : hd en with
        | error er => rw [q2] at m2; exact m2.elim
        | ok fl =>
          rw [q2] at m2
          cases fl with
          | ct en' => exact m2.elim
          | rt d => exact m2
          | nx en' => exact m2
      · have m3 := m
        dsimp only at m3
        rw [if_neg (by rw [hb]; decide)] at m3
        exact m3 σ H' fun b o nb z => s _ _ (ok.same b o nb z)
theorem de_pre {e : Expr} {ev : EvE} (h : PE X e (TEv G W F1 F2 f ev)) (w : wkL F F1 = true := by rfl) : PE X e (TEv G W F F2 f ev) := by
  refine pe_imp h ?_
  rintro σ H Q ⟨c, en, own, ok, m⟩
  obtain ⟨own2, ok2, sb, _⟩ := ok.weak w
  exact ⟨c, en, own2, ok2, m.imp fun d _ q v H' own' ok' s' b' r' => q v H' own' ok' s' (fun a h => (b' a h).imp (sb a) id) r'⟩
end
end Pi
namespace Pi
open PySem PySem.Spec PyProof.Rows L2
def dK : D → Option Key
  | .int i => some (.inl i)
  | .str x => some (.inr x)
  | _ => none
def dSet : List Key → List D → Key → D → List D
  | x :: ks, d :: l, k, v => (if x = k then v else d) :: dSet ks l k v
  | _, _, _, _ => []
def kIn (ks : List Key) (k : Key) : Bool := ks.any fun x => decide (x = k)
def dPut (ks : List Key) (l : List D) (k : Key) (v : D) : List Key × List D := if kIn ks k = true then (ks, dSet ks l k v) else (ks ++ [k], l ++ [v])
section
variable {G : Gb} {A : Addr → Prop} {H : Hp}
end
section
variable {G : Gb} {S : Se} {W : WX} {N : List Str} {sc scope : Scope} {k : Nat} {X : Cx} {F F1 F2 F3 F4 Fh : List SF} {Fo : List SF} {f f1 f2 : VF} {c : Fr} {en : En} {own own0 : Own} {σ : L2.St} {H H' H0 : Hp}
def getD (i : Nat) (en : En) : Rs (List Key × List D) := match en[i]? with
  | some (some (.dct ks l)) => .ok (ks, l)
  | _ => .error .stuck
def sDSub (i : Nat) (ek ev : EvE) : EvS := fun en => bnd (getD i en) fun p => bnd (ev en) fun d => bnd (ek en) fun kd => bnd (ofO (dK kd)) fun k =>
  if p.1.length < sizeLine then .ok (.nx (en.set i (some (.dct (dPut p.1 p.2 k d).1 (dPut p.1 p.2 k d).2)))) else .error .stuck
end
end Pi
namespace Pi
open PySem PySem.Spec PyProof.Rows L2
def Fr.lk (c : Fr) (d : Addr) (z : HO) : Fr := ⟨fun b => if b = d then (c.H0 d).map fun _ => z else c.H0 b, c.A0, c.S, fun b => if b = d then some z else c.L b, c.vl⟩
section
variable {G : Gb} {S : Se} {W : WX} {N : List Str} {sc scope : Scope} {k : Nat} {X : Cx} {F F1 F2 F3 F4 Fh : List SF} {Fo : List SF} {f f1 f2 : VF} {c : Fr} {en : En} {own own0 own1 : Own} {σ : L2.St} {H H' H0 H1 : Hp} {p : Addr} {od : Obj} {kvs : List (Key × V)} {z : HO}
end
end Pi
namespace Pi
open PySem PySem.Spec PyProof.Rows L2
section
variable {G : Gb} {S : Se} {W : WX} {N : List Str} {sc scope : Scope} {k : Nat} {X : Cx} {F F1 F2 F3 F4 Fh : List SF} {Fo : List SF} {f f1 f2 : VF} {c : Fr} {en : En} {own own0 own1 : Own} {σ : L2.St} {H H' H0 H1 : Hp} {vs : List Nat} {p : Addr} {od : Obj} {kvs : List (Key × V)}
end
end Pi
namespace Pi
open PySem PySem.Spec PyProof.Rows L2
section
variable {G : Gb} {S : Se} {W : WX} {N : List Str} {sc scope : Scope} {k : Nat} {X : Cx} {F F1 F2 F3 F4 Fh : List SF} {Fo : List SF} {f f1 f2 : VF} {c : Fr} {en : En} {own own0 own1 : Own} {σ : L2.St} {H H' H0 H1 : Hp}
end
end Pi
namespace Pi
open PySem PySem.Spec PyProof.Rows L2
section
variable {G : Gb} {S : Se} {W : WX} {N : List Str} {sc scope : Scope} {k : Nat} {X : Cx} {F F1 F2 F3 F4 Fh : List SF} {Fo : List SF} {f f1 f2 : VF} {c : Fr} {en : En} {own own0 own1 : Own} {σ : L2.St} {H H' H0 H1 : Hp}
def isSt : D → Bool
  | .str _ => true
  | _ => false
def eM0 (op : D → Option D) (a : EvE) : EvE := fun en => bnd (a en) fun x => if isSt x = true then ofO (op x) else .error .stuck
def eM1 (op : D → D → Option D) (a b : EvE) : EvE := fun en => bnd (a en) fun x => if isSt x = true then bnd (b en) fun y => ofO (op x y) else .error .stuck
def oNo : En → Rs (Option Int) := fun _ => .ok none
def oYes (a : EvE) : En → Rs (Option Int) := fun en => bnd (a en) fun d => match d with
  | .int i => .ok (some i)
  | _ => .error .stuck
def cutD (xs : List D) (lo hi : Option Int) : List D := (xs.drop (HT.sIx xs.length 0 lo)).take (HT.sIx xs.length xs.length hi - HT.sIx xs.length 0 lo)
def oSl : D → Option Int → Option Int → Option D
  | .str z, lo, hi => if z.length ≤ sizeLine then some (.str (Txt.slice z lo hi)) else none
  | .lst l, lo, hi => some (.lst (cutD l lo hi))
  | .scr l, lo, hi => some (.lst (cutD (l.map .int) lo hi))
  | _, _, _ => none
def eSl (a : EvE) (lo hi : En → Rs (Option Int)) : EvE := fun en => bnd (a en) fun x => bnd (lo en) fun l => bnd (hi en) fun h => ofO (oSl x l h)
end
end Pi
namespace Pi
open PySem PySem.Spec PyProof.Rows L2
section
open PySem.SeqAt AutoSeq1 MeetsSeq MeetsSeq2 MeetsSeq3 SeqRoads2
variable {prog : Program} {w : World}
end
section
variable {X : Cx} {pins : List (Addr × Obj)} {σ : L2.St} {H : Hp} {s : Shared}
end
section
variable {G : Gb} {A A' : Addr → Prop} {H : Hp}
end
section
variable {G : Gb}
end
end Pi
namespace Pi
open PySem PySem.Spec PyProof.Rows L2
section
variable {G : Gb} {S : Se} {W : WX} {N : List Str} {sc scope : Scope} {k : Nat} {X : Cx} {F F1 F2 F3 F4 Fh : List SF} {Fo : List SF} {f f1 f2 f3 : VF} {c : Fr} {en : En} {own own0 own1 : Own} {σ : L2.St} {H H' H0 H1 : Hp}
theorem R.b2 {A A' : Addr → Prop} {d : D} {v : V} (h : R G A H d v) (m : ∀ a, A a → A' a) : R G A' H d v := h.an m
end
end Pi
namespace Pi
open PySem PySem.Spec PyProof.Rows L2
section
variable {G : Gb} {S : Se} {W : WX} {N : List Str} {sc scope : Scope} {k : Nat} {X : Cx} {F F1 F2 F3 F4 Fh : List SF} {Fo : List SF} {f f1 f2 : VF} {c : Fr} {en : En} {own own0 own1 : Own} {σ : L2.St} {H H' H0 H1 : Hp} {vs : List Nat} {p : Addr} {od : Obj} {kvs : List (Key × V)}
end
end Pi
namespace Pi
open PySem PySem.Spec PyProof.Rows L2
section
variable {G : Gb} {S : Se} {W : WX} {N : List Str} {sc scope : Scope} {k : Nat} {X : Cx} {F F1 F2 F3 F4 Fh : List SF} {Fo : List SF} {f f1 f2 : VF} {c : Fr} {en : En} {own own0 own1 : Own} {σ : L2.St} {H H' H0 H1 : Hp}
end
end Pi
noncomputable section
namespace Lk11
open PySem PySem.Spec PyProof.Rows L2 Pi
def top (i : Nat) : Stmt := PySem.Challenge.pw_roadshare_k11_trees_made.main.body.getD i (.Pass ⟨0, 0, 0, 0⟩)
def xs : List Str := ["NoTree", "NoPlace"]
def cs : List Cl := [(.own "ShareError"), (.own "NoTree"), (.ty "ValueError"), (.own "NoPlace")]
abbrev t__law_cell_at : Stmt := top 16
abbrev t__law_mixed : Stmt := top 17
abbrev t__law_numbers : Stmt := top 18
abbrev t__law_low : Stmt := top 19
abbrev t__law_price_by : Stmt := top 20
abbrev t__law_roads_by : Stmt := top 21
abbrev t_divisor : Stmt := top 7
abbrev t_is_whole : Stmt := top 6
abbrev t_is_ratio : Stmt := top 9
abbrev t_is_road : Stmt := top 12
abbrev t_way_from : Stmt := top 13
abbrev t_Tree___init__ : Stmt := (C8.clsBody (top 14)).getD 0 (.Pass ⟨0, 0, 0, 0⟩)
abbrev t__law_refused : Stmt := top 24
abbrev t_Tree_roads : Stmt := (C8.clsBody (top 14)).getD 1 (.Pass ⟨0, 0, 0, 0⟩)
abbrev t_Tree_many : Stmt := (C8.clsBody (top 14)).getD 2 (.Pass ⟨0, 0, 0, 0⟩)
abbrev t_Tree_road_at : Stmt := (C8.clsBody (top 14)).getD 3 (.Pass ⟨0, 0, 0, 0⟩)
abbrev t_Tree_leads_to : Stmt := (C8.clsBody (top 14)).getD 4 (.Pass ⟨0, 0, 0, 0⟩)
abbrev t_Tree_price : Stmt := (C8.clsBody (top 14)).getD 5 (.Pass ⟨0, 0, 0, 0⟩)
abbrev t__law_tells : Stmt := top 26
abbrev t__law_no_road : Stmt := top 25
abbrev t__law_bad_road : Stmt := top 22
abbrev t__law_spoilt : Stmt := top 23
abbrev t_law : Stmt := top 27
def dd__law_cell_at : He.DefD := ⟨("_law_cell_at", none), "_law_cell_at", "_law_cell_at", defArgs t__law_cell_at, defBody t__law_cell_at, defScope t__law_cell_at, [], []⟩
def dd__law_mixed : He.DefD := ⟨("_law_mixed", none), "_law_mixed", "_law_mixed", defArgs t__law_mixed, defBody t__law_mixed, defScope t__law_mixed, [], []⟩
def dd__law_numbers : He.DefD := ⟨("_law_numbers", none), "_law_numbers", "_law_numbers", defArgs t__law_numbers, defBody t__law_numbers, defScope t__law_numbers, [], []⟩
def dd__law_low : He.DefD := ⟨("_law_low", none), "_law_low", "_law_low", defArgs t__law_low, defBody t__law_low, defScope t__law_low, [], []⟩
def dd__law_price_by : He.DefD := ⟨("_law_price_by", none), "_law_price_by", "_law_price_by", defArgs t__law_price_by, defBody t__law_price_by, defScope t__law_price_by, [], []⟩
def dd__law_roads_by : He.DefD := ⟨("_law_roads_by", none), "_law_roads_by", "_law_roads_by", defArgs t__law_roads_by, defBody t__law_roads_by, defScope t__law_roads_by, [], []⟩
def dd_divisor : He.DefD := ⟨("divisor", none), "divisor", "divisor", defArgs t_divisor, defBody t_divisor, defScope t_divisor, [], []⟩
def dd_is_whole : He.DefD := ⟨("is_whole", none), "is_whole", "is_whole", defArgs t_is_whole, defBody t_is_whole, defScope t_is_whole, [], []⟩
def dd_is_ratio : He.DefD := ⟨("is_ratio", none), "is_ratio", "is_ratio", defArgs t_is_ratio, defBody t_is_ratio, defScope t_is_ratio, [], []⟩
def dd_is_road : He.DefD := ⟨("is_road", none), "is_road", "is_road", defArgs t_is_road, defBody t_is_road, defScope t_is_road, [], []⟩
def dd_way_from : He.DefD := ⟨("way_from", none), "way_from", "way_from", defArgs t_way_from, defBody t_way_from, defScope t_way_from, [], []⟩
def dd_Tree___init__ : He.DefD := ⟨("Tree", some "__init__"), "__init__", "Tree.__init__", defArgs t_Tree___init__, defBody t_Tree___init__, defScope t_Tree___init__, [], []⟩
def dd__law_refused : He.DefD := ⟨("_law_refused", none), "_law_refused", "_law_refused", defArgs t__law_refused, defBody t__law_refused, defScope t__law_refused, [], []⟩
def dd_Tree_roads : He.DefD := ⟨("Tree", some "roads"), "roads", "Tree.roads", defArgs t_Tree_roads, defBody t_Tree_roads, defScope t_Tree_roads, [], []⟩
def dd_Tree_many : He.DefD := ⟨("Tree", some "many"), "many", "Tree.many", defArgs t_Tree_many, defBody t_Tree_many, defScope t_Tree_many, [], []⟩
def dd_Tree_road_at : He.DefD := ⟨("Tree", some "road_at"), "road_at", "Tree.road_at", defArgs t_Tree_road_at, defBody t_Tree_road_at, defScope t_Tree_road_at, [], []⟩
def dd_Tree_leads_to : He.DefD := ⟨("Tree", some "leads_to"), "leads_to", "Tree.leads_to", defArgs t_Tree_leads_to, defBody t_Tree_leads_to, defScope t_Tree_leads_to, [], []⟩
def dd_Tree_price : He.DefD := ⟨("Tree", some "price"), "price", "Tree.price", defArgs t_Tree_price, defBody t_Tree_price, defScope t_Tree_price, [], []⟩
def dd__law_tells : He.DefD := ⟨("_law_tells", none), "_law_tells", "_law_tells", defArgs t__law_tells, defBody t__law_tells, defScope t__law_tells, [], []⟩
def dd__law_no_road : He.DefD := ⟨("_law_no_road", none), "_law_no_road", "_law_no_road", defArgs t__law_no_road, defBody t__law_no_road, defScope t__law_no_road, [], []⟩
def dd__law_bad_road : He.DefD := ⟨("_law_bad_road", none), "_law_bad_road", "_law_bad_road", defArgs t__law_bad_road, defBody t__law_bad_road, defScope t__law_bad_road, [], []⟩
def dd__law_spoilt : He.DefD := ⟨("_law_spoilt", none), "_law_spoilt", "_law_spoilt", defArgs t__law_spoilt, defBody t__law_spoilt, defScope t__law_spoilt, [], []⟩
def dd_law : He.DefD := ⟨("law", none), "law", "law", defArgs t_law, defBody t_law, defScope t_law, [], []⟩
def fnL : List He.DefD := [dd__law_cell_at, dd__law_mixed, dd__law_numbers, dd__law_low, dd__law_price_by, dd__law_roads_by, dd_divisor, dd_is_whole, dd_is_ratio, dd_is_road, dd_way_from, dd_Tree___init__, dd__law_refused, dd_Tree_roads, dd_Tree_many, dd_Tree_road_at, dd_Tree_leads_to, dd_Tree_price, dd__law_tells, dd__law_no_road, dd__law_bad_road, dd__law_spoilt, dd_law]
def cn : List (Str × List Str) := [("Tree", ["kept"])]
def faL : List He.Fa := [.glo "_law_cell_at", .glo "_law_mixed", .glo "_law_numbers", .glo "_law_low", .glo "_law_price_by", .glo "_law_roads_by", .glo "divisor", .glo "is_whole", .glo "is_ratio", .glo "is_road", .glo "way_from", .mkr "Tree", .glo "_law_refused", .meth "Tree" "roads", .meth "Tree" "many", .meth "Tree" "road_at", .meth "Tree" "leads_to", .meth "Tree" "price", .glo "_law_tells", .glo "_law_no_road", .glo "_law_bad_road", .glo "_law_spoilt", .glo "law", .free "abs", .free "bool", .free "enumerate", .free "int", .free "isinstance", .free "len", .free "list", .free "min", .free "range", .free "tuple", .glo "NoTree", .exc "NoTree", .glo "NoPlace", .exc "NoPlace", .cls "Tree", .glo "Tree", .noat "Tree" "kept", .int "MOST_ROADS" 40] ++ cs.map clFa
def exL (K : PySem.W.Frag) : Bool := xkB xs cs K
abbrev Rw : PySem.W.OpenRow := PySem.W.OpenLaw.row PySem.Challenge.rw_roadshare_k11_trees_made
def asL : List Addr := [3, 6, 4, 21, 31, 44, 56, 65, 72, 79, 86, 93, 159, 170, 177, 184, 191, 198, 203, 210, 217, 224, 231, 238, 245, 0, 20, 30, 43, 55, 64, 71, 78, 85, 92, 158, 169, 176, 183, 190, 197, 202, 209, 216, 223, 230, 237, 244, 15, 16, 17, 18, 19, 29, 32, 42, 54, 59, 60, 61, 62, 63, 66, 67, 68, 69, 70, 73, 74, 75, 76, 77, 80, 81, 82, 83, 84, 87, 88, 89, 90, 91, 107, 114, 121, 128, 135, 142, 149, 156, 157, 160, 161, 164, 165, 166, 167, 168, 171, 172, 173, 174, 175, 178, 179, 180, 181, 182, 185, 186, 187, 188, 189, 192, 193, 194, 195, 196, 199, 200, 201, 204, 205, 206, 207, 208, 211, 212, 213, 214, 215, 218, 219, 220, 221, 222, 225, 226, 227, 228, 229, 232, 233, 234, 235, 236, 239, 240, 241, 242, 243, 106, 113, 120, 127, 134, 141, 148, 155, 101, 102, 103, 104, 105, 108, 109, 110, 111, 112, 115, 116, 117, 118, 119, 122, 123, 124, 125, 126, 129, 130, 131, 132, 133, 136, 137, 138, 139, 140, 143, 144, 145, 146, 147, 150, 151, 152, 153, 154]
abbrev hk : PySem.W.Hook := hookQ asL faL fnL exL
def ob (s : PySem.W.SharedT) : He.AlD × Bool := obQ asL faL fnL exL (HandSHeadRun.getT s)
theorem ob_eq (s : PySem.W.SharedT) : ob s = hk.obs s.abs := obQ_eq (HandSHeadRun.getT_eq s)
def loose0 : List PySem.Str := ["_wall", "ShareError", "NoTree", "NoPlace", "is_whole", "divisor", "is_ratio", "MOST_ROADS", "is_road", "way_from", "Tree", "_law_cell_at", "_law_mixed", "_law_numbers", "_law_low", "_law_price_by", "_law_roads_by", "_law_bad_road", "_law_spoilt", "_law_refused", "_law_no_road", "_law_tells"]
def loose : List PySem.Str := loose0
theorem run (w : World) : HandSHeadRun.RunEq Rw (PySem.W.view Rw.prog [27]) hk ob 20000 loose w := by
  intro os
  kernel_rfl
end Lk11
end
namespace Pi
open PySem PySem.Spec PyProof.Rows L2
section
variable {X : Cx}
variable {o : Expr} {p pos apos mpos : Pos} {td : TE}
end
section
variable {G : Gb} {S : Se} {W : WX} {N : List Str} {sc scope : Scope} {k : Nat} {X : Cx} {F F1 F2 F3 : List SF} {f f1 f2 : VF} {c : Fr} {en : En} {own : Own} {σ : L2.St} {H H' : Hp}
end
end Pi
namespace Pi
open PySem PySem.Spec PyProof.Rows L2
section
variable {prog : Program} {w : World} {A : Around} {E : Value → Shared → Prop} {s : Shared} {a kS : Addr} {f : Value} {b : Bool} {vs : List Value} {e1 : Nat} {P : PySem.Fin → Shared → Prop}
end
section
variable {K : PySem.W.Frag} {H H' : Hp}
end
section
variable {X : Cx} {pins : List (Addr × Obj)} {s : Shared} {σ : L2.St} {H : Hp} {k : Nat} {f p : Addr} {sp : Sp} {ds : List PyData} {ys : List V}
end
section
variable {G : Gb} {S : Se} {W : WX} {N : List Str} {sc scope : Scope} {k : Nat} {X : Cx} {F F1 F2 : List SF} {f f1 f2 : VF} {c : Fr} {en : En} {own own0 own1 : Own} {σ : L2.St} {H H' H0 H1 : Hp}
theorem RRet.dp {md : Bool} {A0 : Addr → Prop} {d : D} {v : V} (h : RRet G md A0 H H' d v) (hp : pl d 39 = true) : Dp G.K H' v (toP d) := by
  cases md with
  | true =>
    obtain ⟨os, h, _⟩ := h
    exact RB.dp 39 h.b hp
  | false => exact R.dp d ⟨39, hp⟩ v h
end
end Pi
namespace Pi
open PySem PySem.Spec PyProof.Rows L2
section
variable {G : Gb} {S : Se} {W : WX} {N : List Str} {sc scope : Scope} {k : Nat} {X : Cx} {F F1 F2 F3 : List SF} {f f1 f2 : VF} {c : Fr} {en : En} {own own0 own1 : Own} {σ : L2.St} {H H' H0 H1 : Hp}
end
end Pi
namespace Pi
open PySem PySem.Spec PyProof.Rows L2
section
variable {G : Gb} {S : Se} {W : WX} {N : List Str} {sc scope : Scope} {k : Nat} {X : Cx} {F F1 F2 F3 : List SF} {f f1 f2 : VF} {c : Fr} {en : En} {own own0 own1 : Own} {σ : L2.St} {H H' H0 H1 : Hp} {vs : List Nat}
end
end Pi
namespace Pi
open PySem PySem.Spec PyProof.Rows L2
section
variable {G : Gb} {S : Se} {W : WX} {N : List Str} {sc scope : Scope} {k : Nat} {X : Cx} {F F' F1 F2 F3 : List SF} {f f1 f2 : VF} {c : Fr} {en : En} {own own0 own1 : Own} {σ : L2.St} {H H' H0 H1 : Hp}
def SF.dp : SF → SF
  | .s _ | .o _ | .z | .dt _ | .ma _ => .s false
  | _ => .n
def deepF (F : List SF) : List SF := F.map SF.dp
theorem deep_ok (ok : Ok G c F en own σ H) : Ok G (Fr.new H fun _ => True) (deepF F) en Own.new σ H := by
  have now : ∀ a, ¬ ow Own.new a := fun a h => by
    rcases h with ⟨i, h⟩ | h
    · cases h
    · exact h
  have all : ∀ a, Av (Fr.new H fun _ => True) (ow Own.new) false a := fun a => ⟨now a, fun z => (nomatch z), .inr trivial⟩
  refine { lF := by rw [← ok.lF]; simp [deepF], lE := ok.lE, same := fun b o _ e => e, tr := fun a h => False.elim h, dj := fun i j a h _ => (nomatch h), dt := fun i a h => (nomatch h), nt := fun a h => False.elim h, nw := fun i a h => (nomatch h), sl := fun i => ?_, lk := fun a o h => (nomatch h) }
  have h := ok.sl i
  unfold Slt at h ⊢
  unfold deepF
  rw [List.getElem?_map]
  cases hF : F[i]? with
  | none => simp
  | some f =>
    rw [hF] at h
    cases he : en[i]? with
    | none => cases f <;> simp [SF.dp]
    | some od =>
      cases od with
      | none => cases f <;> simp [SF.dp]
      | some d =>
        rw [he] at h
        cases f with
        | n => simp [SF.dp]
        | x a => simp [SF.dp]
        | s dp => obtain ⟨x, h1, h2⟩ := h; exact ⟨x, h1, R.an h2 fun a _ => all a⟩
        | o dp => obtain ⟨x, h1, h2⟩ := h; exact ⟨x, h1, RO.r h2 (fun a _ => all a) fun a _ => all a⟩
        | z => obtain ⟨x, h1, h2, _⟩ := h; exact ⟨x, h1, RO.r h2 (fun a _ => all a) fun a _ => all a⟩
        | dt sh => obtain ⟨x, h1, h2, _⟩ := h; exact ⟨x, h1, RS.r d h2 (fun a _ => all a) fun a _ => all a⟩
        | ma sh => obtain ⟨x, h1, h2, _⟩ := h; exact ⟨x, h1, RS.r d h2 (fun a _ => all a) fun a _ => all a⟩
theorem RSP.len {A : Addr → Prop} : ∀ (l : List D) {sh : Sh} {xs : List V} {os : List Addr}, RSP G A H l sh xs os → xs.length = l.length
  | [], _, _, _, h => by unfold RSP at h; rw [h.1]; rfl
  | a :: l, _, _, _, h => by
    unfold RSP at h
    obtain ⟨x, r, o1, o2, e1, e2, h1, h2⟩ := h
    rw [e1]
    exact congrArg Nat.succ (RSP.len l h2)
theorem RSP.at {A : Addr → Prop} : ∀ (l : List D) {n : Nat} {d : D} {xs : List V} {os : List Addr}, RSP G A H l .u xs os → l[n]? = some d → ∃ x o1 om o2, os = o1 ++ (om ++ o2) ∧ xs[n]? = some x ∧ RS G A H d .u x om ∧
    ∀ H' d', Up G.K A A H H' → (∀ a o, a ∈ o1 → H a = some o → H' a = some o) → (∀ a o, a ∈ o2 → H a = some o → H' a = some o) → RS G A H' d' .u x om → RSP G A H' (l.set n d') .u xs os
  | [], n, d, xs, os, _, e => by simp at e
  | a :: l, 0, d, xs, os, h, e => by
    unfold RSP at h
    obtain ⟨x, r, o1, o2, e1, e2, h1, h2⟩ := h
    simp at e
    subst e
    refine ⟨x, [], o1, o2, by rw [e2]; rfl, by rw [e1]; rfl, h1, fun H' d' u _ k2 q => ?_⟩
    show RSP G A H' (d' :: l) .u xs os
    unfold RSP
    exact ⟨x, r, o1, o2, e1, e2, q, RSP.up u l h2 k2⟩
  | a :: l, n + 1, d, xs, os, h, e => by
    unfold RSP at h
    obtain ⟨x, r, o1, o2, e1, e2, h1, h2⟩ := h
    obtain ⟨y, p1, pm, p2, q1, q2, q3, q4⟩ := RSP.at l (n := n) (d := d) h2 (by simpa using e)
    refine ⟨y, o1 ++ p1, pm, p2, by rw [e2, q1, List.append_assoc], by rw [e1]; simpa using q2, q3, fun H' d' u k1 k2 q => ?_⟩
    show RSP G A H' (a :: l.set n d') .u xs os
    unfold RSP
    exact ⟨x, r, o1, o2, e1, e2, RS.up u a h1 fun b o z => k1 b o (List.mem_append_left _ z), q4 H' d' u (fun b o z => k1 b o (List.mem_append_right _ z)) k2 q⟩
end
end Pi
namespace Pi
open PySem PySem.Spec PyProof.Rows L2
section
variable {G : Gb} {N : List Str} {sc : Scope} {X : Cx}
end
end Pi
namespace Pi
open PySem PySem.Spec PyProof.Rows L2
section
variable {G : Gb} {S : Se} {W : WX} {N : List Str} {sc scope : Scope} {k : Nat} {X : Cx} {F F' F1 F2 F3 : List SF} {f f1 f2 : VF} {c : Fr} {en : En} {own own0 own1 : Own} {σ : L2.St} {H H' H0 H1 : Hp} {p : Addr} {od : Obj} {kvs : List (Key × V)}
end
end Pi
namespace Pi
open PySem PySem.Spec PyProof.Rows L2
section
variable {G : Gb} {S : Se} {W : WX} {N : List Str} {sc scope : Scope} {k : Nat} {X : Cx} {F F' F1 F2 F3 : List SF} {f f1 f2 : VF} {c : Fr} {en : En} {own own0 own1 : Own} {σ : L2.St} {H H' H0 H1 : Hp}
end
end Pi
namespace Pi
open PySem PySem.Spec PyProof.Rows L2
section
variable {G : Gb} {S : Se} {W : WX} {N : List Str} {sc scope : Scope} {k : Nat} {X : Cx} {F F' F1 F2 F3 F4 : List SF} {f f1 f2 : VF} {c : Fr} {en : En} {own own0 own1 : Own} {σ : L2.St} {H H' H0 H1 : Hp} {vs : List Nat}
theorem de_new {e : Expr} {ev : EvE} (h : PE X e (TEv G W (deepF F) F1 (.uq true) ev)) : PE X e (TEv G W F F (.uq true) ev) := by
  refine pe_imp h ?_
  rintro σ H Q ⟨c, en, own, ok, m⟩
  refine ⟨Fr.new H fun _ => True, en, Own.new, deep_ok ok, ?_⟩
  cases q : ev en with
  | error er =>
    rw [q] at m
    cases er with
    | raise k => exact fun H' s => m H' fun b o n e => s b o (fun z => z) (ok.same b o n e)
    | stuck => exact m.elim
  | ok d =>
    rw [q] at m
    intro v H1 own1 ok1 s1 b1 r1
    obtain ⟨os, r0, t0⟩ := r1
    have new : ∀ a, a ∈ os → H a = none := fun a ha => (ok1.nt a (t0 a ha)).2
    have okr := ok.resL s1 (os := os) new r0.at
    refine m v H1 _ okr s1 (sub_resL new) ⟨os, RO.up r0 (Up.same (Same.refl H1) fun a z => ?_) (fun _ _ _ z => z), fun a ha => .inr ha⟩
    have hn : H a = none := z.2.1 rfl
    refine ⟨fun y => ?_, fun _ => ok.free hn, .inl (ok.free hn)⟩
    rcases y with y | y | y
    · exact ok.trk (.inl y) hn
    · exact ok.trk (.inr y) hn
    · exact z.1 (.inr (t0 a y))
end
end Pi
namespace Pi
open PySem PySem.Spec PyProof.Rows L2
section
variable {prog : Program} {w : World} {A : Around} {E : Value → Shared → Prop} {s : Shared}
end
section
variable {prog : Program} {w : World} {A : Around} {E : Value → Shared → Prop} {s : Shared}
end
section
variable {G : Gb} {S : Se} {W : WX} {N : List Str} {sc scope : Scope} {k : Nat} {X : Cx} {F F1 F2 F3 F4 Fh : List SF} {Fo : List SF} {f f1 f2 : VF} {c : Fr} {en : En} {own own0 own1 : Own} {σ : L2.St} {H H' H0 H1 : Hp} {p : Addr} {od : Obj} {kvs : List (Key × V)} {z : HO}
end
end Pi
namespace Pi
open PySem PySem.Spec PyProof.Rows L2
abbrev EvX := En → Rs (D × En)
def TBv (G : Gb) (W : WX) (b : Bool) (F Fe : List SF) (st : EvX) : TS := fun D σ H => ∃ (c : Fr) (en : En) (own : Own), Ok G c F en own σ H ∧
  MtS G W c (st en) fun p => (∀ v σ' H' own', Ok G c Fe p.2 own' σ' H' → R G (Av c (ow own') false) H' p.1 v → D.rt v H') ∧ (b = true → p.1 = .non → ∀ σ' H' own', Ok G c Fe p.2 own' σ' H' → D.nx σ' H')
def sB (s : EvS) (t : EvX) : EvX := fun en => bnd (s en) fun fl => match fl with
  | .nx en' => t en'
  | _ => .error .stuck
def xIf' (t : En → Rs Bool) (a b : EvX) : EvX := fun en => bnd (t en) fun c => if c = true then a en else b en
def sStuck : EvS := fun _ => .error .stuck
section
variable {G : Gb} {S : Se} {W : WX} {N : List Str} {sc scope : Scope} {k : Nat} {X : Cx} {F F' F1 F2 F3 F4 Fe Fo : List SF} {f f1 f2 : VF} {c : Fr} {en : En} {own own0 own1 : Own} {σ : L2.St} {H H' H0 H1 : Hp} {vs : List Nat} {b : Bool}
theorem db_stuck {sts : List Stmt} : PSs X sts (TBv G W b F Fe fun _ => .error .stuck) := ⟨fun _ _ _ _ _ _ h => by obtain ⟨_, _, _, _, m⟩ := h; exact m.elim⟩
theorem db_nil : PSs X [] (TBv G W true F F fun en => .ok (.non, en)) := by
  refine pss_imp pss_nil ?_
  rintro D σ H ⟨c, en, own, ok, m⟩
  exact m.2 rfl rfl σ H own ok
theorem db_cons {st : Stmt} {rest : List Stmt} {s : EvS} {t : EvX} (h1 : PS X st (TSv G ⟨false, W, []⟩ F F1 s)) (h2 : PSs X rest (TBv G W b F1 Fe t)) : PSs X (st :: rest) (TBv G W b F Fe (sB s t)) := by
  refine pss_imp (pss_cons h1 h2) ?_
  rintro D σ H ⟨c, en, own, ok, m⟩
  refine ⟨c, en, own, ok, m.bnd.imp fun fl _ mf => ?_⟩
  cases fl with
  | nx en' => exact fun σ' H' own' ok' => ⟨c, en', own', ok', mf⟩
  | rt d => exact mf.elim
  | ct en' => exact mf.elim
theorem db_if {t : Expr} {a rest : List Stmt} {pos : Pos} {tt : En → Rs Bool} {ea eb : EvX} (hc : PT X t (TTv G W F F1 tt)) (ha : PSs X a (TBv G W false F1 Fe ea)) (hb : PSs X rest (TBv G W b F1 Fe eb)) : PSs X (.If t a [] pos :: rest) (TBv G W b F Fe (xIf' tt ea eb)) := by
  refine pss_imp (pss_cons (ps_if hc ha pss_nil) hb) ?_
  rintro D σ H ⟨c, en, own, ok, m⟩
  refine ⟨c, en, own, ok, m.bnd.e.imp fun x _ mx H1 own1 ok1 s1 b1 => ?_⟩
  cases x with
  | true =>
    rw [if_pos rfl] at mx ⊢
    exact ⟨c, en, own1, ok1, mx.imp fun p _ q => ⟨q.1, fun z => by cases z⟩⟩
  | false =>
    rw [if_neg (by decide)] at mx ⊢
    exact ⟨c, en, own1, ok1, mx⟩
theorem db_pre {sts : List Stmt} {s : EvX} (h : PSs X sts (TBv G W b F1 Fe s)) (w : wkL F F1 = true := by rfl) : PSs X sts (TBv G W b F Fe s) := by
  refine pss_imp h ?_
  rintro D σ H ⟨c, en, own, ok, m⟩
  obtain ⟨own2, ok2, _⟩ := ok.weak w
  exact ⟨c, en, own2, ok2, m⟩
end
def RSs (G : Gb) (A : Addr → Prop) (H : Hp) (shs : List Sh) (ds : List D) (vs : List V) (os : Nat → List Addr) : Prop :=
  ds.length = shs.length ∧ vs.length = shs.length ∧ ∀ (i : Nat) (sh : Sh) (d : D) (v : V), shs[i]? = some sh → ds[i]? = some d → vs[i]? = some v → RS G A H d sh v (os i) ∧ (os i).Nodup
def Apt (k : Nat) (os : Nat → List Addr) : Prop := (∀ i j a, a ∈ os i → a ∈ os j → i = j) ∧ ∀ i, k ≤ i → os i = []
def inO (os : Nat → List Addr) (a : Addr) : Prop := ∃ i, a ∈ os i
def spX (G : Gb) (shs : List Sh) (n : Nat) (fn : List D → Rs D) : Sp := fun vs H Q E => vs.length = n ∧ ∃ (dsX dsR : List D) (vsX vsR : List V) (os : Nat → List Addr) (A : Addr → Prop), vs = vsX ++ vsR ∧ RSs G A H shs dsX vsX os ∧ Apt shs.length os ∧ (∀ a, A a → ¬ inO os a) ∧ RL G A H dsR vsR ∧
  match fn (dsX ++ dsR) with
  | .ok (.tup (r :: news)) => ∀ v H' os', (∀ b o, ¬ inO os b → H b = some o → H' b = some o) → (∀ a, inO os a → H' a ≠ none) → Apt shs.length os' → (∀ a, inO os' a → H' a ≠ none ∧ (inO os a ∨ H a = none)) →
      RSs G (fun a => ¬ inO os' a ∧ (H a = none ∨ inO os a ∨ A a)) H' shs news vsX os' → R G (fun a => ¬ inO os' a ∧ (H a = none ∨ inO os a ∨ A a)) H' r v → Q v H'
  | .error (.raise e) => ∀ H', Same H H' → E (.ref (G.xa e)) none H'
  | _ => False
def grab : Nat → En → Option (List D)
  | 0, _ => some []
  | k + 1, some d :: en => (grab k en).map (d :: ·)
  | _ + 1, _ => none
theorem grab_at : ∀ {k : Nat} {en : En} {ds : List D}, grab k en = some ds → ds.length = k ∧ ∀ (i : Nat) (d : D), ds[i]? = some d → en[i]? = some (some d)
  | 0, en, ds, h => by cases h; exact ⟨rfl, fun i d h => by simp at h⟩
  | k + 1, [], ds, h => by cases h
  | k + 1, none :: en, ds, h => by cases h
  | k + 1, some d :: en, ds, h => by
    obtain ⟨r, e1, rfl⟩ := Option.map_eq_some_iff.mp h
    obtain ⟨h1, h2⟩ := grab_at e1
    refine ⟨by simp [h1], fun i d' hi => ?_⟩
    cases i with
    | zero => simpa using hi
    | succ i => exact h2 i d' (by simpa using hi)
def runX (k m : Nat) (stB : EvS) (stM : EvX) (ds : List D) : Rs D := match stB (ds.map some ++ List.replicate m none) with
  | .error (.raise e) => .error (.raise e)
  | _ => match stM (ds.map some ++ List.replicate m none) with
    | .ok p => match grab k p.2 with
      | some news => .ok (.tup (p.1 :: news))
      | none => .error .stuck
    | .error _ => .error .stuck
def FX (shs : List Sh) (n m : Nat) : List SF := shs.map .ma ++ List.replicate (n - shs.length) (.s false) ++ List.replicate m .n
open Classical in
noncomputable def Fr.cut (H : Hp) (A : Addr → Prop) (os : Nat → List Addr) (vl : Nat → Option V) : Fr := ⟨fun a => if inO os a then none else H a, A, inO os, fun _ => none, vl⟩
section
variable {G : Gb} {H H' : Hp} {A : Addr → Prop} {os os' : Nat → List Addr} {shs : List Sh} {dsX dsR : List D} {vsX vsR : List V} {vl : Nat → Option V}
theorem cut_none {a : Addr} : (Fr.cut H A os vl).H0 a = none ↔ inO os a ∨ H a = none := by
  unfold Fr.cut
  dsimp only
  by_cases h : inO os a
  · rw [if_pos h]; exact ⟨fun _ => .inl h, fun _ => rfl⟩
  · rw [if_neg h]; exact ⟨fun z => .inr z, fun z => z.resolve_left h⟩
theorem startX {n m : Nat} {N : List Str} (hN : N.length = n + m) (hv : (vsX ++ vsR).length = n) (hX : RSs G A H shs dsX vsX os) (ha : Apt shs.length os) (hA : ∀ a, A a → ¬ inO os a) (r : RL G A H dsR vsR) :
    Ok G (Fr.cut H A os fun i => if i < shs.length then vsX[i]? else none) (FX shs n m) ((dsX ++ dsR).map some ++ List.replicate m none) ⟨os, fun _ => False⟩ (L2.start N (vsX ++ vsR)) H := by
  obtain ⟨x1, x2, x3⟩ := hX
  have lR : dsR.length = vsR.length := r.len.symm
  have hd : (dsX ++ dsR).length = n := by rw [List.length_append, x1, lR, ← x2, ← List.length_append]; exact hv
  have hk : shs.length ≤ n := by rw [← x1]; rw [List.length_append] at hd; omega
  have hl : (L2.start N (vsX ++ vsR)).length = n + m := by
    unfold L2.start
    rw [List.length_append, List.length_map, List.length_replicate, hN, hv]
    omega
  have owi : ∀ a, ow (⟨os, fun _ => False⟩ : Own) a → inO os a := fun a h => h.elim id fun z => z.elim
  have atX : ∀ i a, a ∈ os i → H a ≠ none := fun i a hi => by
    have hik : i < shs.length := Nat.lt_of_not_le fun z => by rw [ha.2 i z] at hi; cases hi
    obtain ⟨h1, _⟩ := x3 i shs[i] (dsX[i]'(by omega)) (vsX[i]'(by omega)) (List.getElem?_eq_getElem hik) (List.getElem?_eq_getElem (by omega)) (List.getElem?_eq_getElem (by omega))
    obtain ⟨o, e, _⟩ := RS.wr _ h1 a hi
    rw [e]
    simp
  have av : ∀ a, A a → Av (Fr.cut H A os fun i => if i < shs.length then vsX[i]? else none) (ow ⟨os, fun _ => False⟩) false a := fun a h => ⟨fun z => hA a h (owi a z), (fun z => by cases z), .inr h⟩
  refine { lF := ?_, lE := ?_, same := fun b o _ e => ?_, tr := fun a ⟨i, hi⟩ => atX i a hi, dj := ha.1, dt := fun i a _ z => z, nt := fun a h => False.elim h, nw := fun i a h => ⟨atX i a h, .inl (cut_none.mpr (.inl ⟨i, h⟩))⟩, sl := fun i => ?_, lk := fun a o h => by cases h }
  · rw [hl]
    unfold FX
    rw [List.length_append, List.length_append, List.length_map, List.length_replicate, List.length_replicate]
    omega
  · rw [hl, List.length_append, List.length_map, List.length_replicate, hd]
  · unfold Fr.cut at e
    dsimp only at e
    split at e
    · cases e
    · exact e
  unfold Slt
  have σi : ∀ {v : V}, (vsX ++ vsR)[i]? = some v → (L2.start N (vsX ++ vsR))[i]? = some (some v) := fun {v} h => by
    have := (List.getElem?_eq_some_iff.mp h).1
    unfold L2.start
    rw [List.getElem?_append_left (by simpa using this), List.getElem?_map, h]
    rfl
  have eni : ∀ {d : D}, (dsX ++ dsR)[i]? = some d → ((dsX ++ dsR).map some ++ List.replicate m none)[i]? = some (some d) := fun {d} h => by
    have := (List.getElem?_eq_some_iff.mp h).1
    rw [List.getElem?_append_left (by simpa using this), List.getElem?_map, h]
    rfl
  by_cases h1 : i < shs.length
  · have e1 : (FX shs n m)[i]? = some (.ma shs[i]) := by
      unfold FX
      rw [List.append_assoc, List.getElem?_append_left (by simpa using h1), List.getElem?_map, List.getElem?_eq_getElem h1]
      rfl
    have e2 : (dsX ++ dsR)[i]? = some (dsX[i]'(by omega)) := by rw [List.getElem?_append_left (by omega)]; exact List.getElem?_eq_getElem (by omega)
    have e3 : (vsX ++ vsR)[i]? = some (vsX[i]'(by omega)) := by rw [List.getElem?_append_left (by omega)]; exact List.getElem?_eq_getElem (by omega)
    obtain ⟨q1, q2⟩ := x3 i shs[i] (dsX[i]'(by omega)) (vsX[i]'(by omega)) (List.getElem?_eq_getElem h1) (List.getElem?_eq_getElem (by omega)) (List.getElem?_eq_getElem (by omega))
    rw [e1, eni e2]
    refine ⟨_, σi e3, RS.up (Up.same (Same.refl H) av) _ q1 (fun _ _ _ z => z), q2, ?_⟩
    show (if i < shs.length then vsX[i]? else none) = _
    rw [if_pos h1]
    exact List.getElem?_eq_getElem (by omega)
  · by_cases h2 : i < n
    · have e1 : (FX shs n m)[i]? = some (.s false) := by
        unfold FX
        rw [List.append_assoc, List.getElem?_append_right (by simpa using h1), List.length_map, List.getElem?_append_left (by rw [List.length_replicate]; omega), List.getElem?_replicate, if_pos (by omega)]
      have hR : i - shs.length < dsR.length := by rw [List.length_append, x1] at hd; omega
      obtain ⟨x, hx, rx⟩ := r.get (List.getElem?_eq_getElem hR)
      have e2 : (dsX ++ dsR)[i]? = some dsR[i - shs.length] := by rw [List.getElem?_append_right (by omega), x1]; exact List.getElem?_eq_getElem hR
      have e3 : (vsX ++ vsR)[i]? = some x := by rw [List.getElem?_append_right (by omega), x2]; exact hx
      rw [e1, eni e2]
      exact ⟨x, σi e3, R.up (Up.same (Same.refl H) av) _ rx⟩
    · have e1 : (FX shs n m)[i]? = some .n ∨ (FX shs n m)[i]? = none := by
        unfold FX
        rw [List.append_assoc, List.getElem?_append_right (by simpa using h1), List.length_map, List.getElem?_append_right (by rw [List.length_replicate]; omega), List.getElem?_replicate]
        split
        · exact .inl rfl
        · exact .inr rfl
      rcases e1 with e | e <;> rw [e] <;> simp
end
section
variable {G : Gb}
theorem fn_okX {x qual : Str} {params : Arguments} {body : List Stmt} {sc : Scope} {dvs : List V} {kws : List (Str × V)} {f : Addr} {fd : FuncData} {N ps : List Str} {k n m : Nat} {shs : List Sh} {stB : EvS} {stM : EvX} {Fo Fe : List SF} (F : FunD G.K x qual params body sc dvs kws f fd) (S : FnScope N ps sc) (hp : ps.length = n) (hN : N.length = n + m)
    (hB : ∀ (X : Cx) (W : WX), Gs G N sc k W X → PSs X body (TSv G ⟨false, W, []⟩ (F0 n m) Fo stB)) (hM : ∀ (X : Cx) (W : WX), Gs G N sc k W X → PSs X body (TBv G W true (FX shs n m) Fe stM))
    (hFe : ∀ (i : Nat) (sh : Sh), shs[i]? = some sh → Fe[i]? = some (.ma sh)) : FnOk G.P G.w G.K G.mg G.base (L2.CX G.P G.w) (k + 1) f fd ps (spX G shs n (runX shs.length m stB stM)) := by
  refine F.ok S (fun vs H Q E h => by rw [hp]; exact h.1) fun cdv A outer s H vs Q E hr h => ?_
  obtain ⟨hv, dsX, dsR, vsX, vsR, os, A0, rfl, hX, ha, hA, r, q⟩ := h
  have goM : (match (match stM ((dsX ++ dsR).map some ++ List.replicate m none) with
      | .ok p => (match grab shs.length p.2 with
        | some news => .ok (.tup (p.1 :: news))
        | none => .error .stuck : Rs D)
      | .error _ => .error .stuck) with
    | .ok (.tup (r :: news)) => ∀ v H' os', (∀ b o, ¬ inO os b → H b = some o → H' b = some o) → (∀ a, inO os a → H' a ≠ none) → Apt shs.length os' → (∀ a, inO os' a → H' a ≠ none ∧ (inO os a ∨ H a = none)) →
      RSs G (fun a => ¬ inO os' a ∧ (H a = none ∨ inO os a ∨ A0 a)) H' shs news vsX os' → R G (fun a => ¬ inO os' a ∧ (H a = none ∨ inO os a ∨ A0 a)) H' r v → Q v H'
    | .error (.raise e) => ∀ H', Same H H' → E (.ref (G.xa e)) none H'
    | _ => False) → ∃ t, PSs (cxOf (L2.CX G.P G.w) G.P G.w G.K G.mg G.base N qual sc f cdv A outer s H E) body t ∧ t { nx := fun _ H' => Q .non H', rt := Q } (L2.start N (vsX ++ vsR)) H := by
    intro q
    refine ⟨_, hM _ _ (gs_of S.nd S.kind hr), _, _, _, startX hN hv hX ha hA r, ?_⟩
    cases eM : stM ((dsX ++ dsR).map some ++ List.replicate m none) with
    | error er => rw [eM] at q; exact q.elim
    | ok p =>
      rw [eM] at q
      dsimp only at q
      cases eg : grab shs.length p.2 with
      | none => rw [eg] at q; exact q.elim
      | some news =>
        rw [eg] at q
        dsimp only at q
        obtain ⟨g1, g2⟩ := grab_at eg
        have fin : ∀ v σ' H' own', Ok G (Fr.cut H A0 os fun i => if i < shs.length then vsX[i]? else none) Fe p.2 own' σ' H' → R G (Av (Fr.cut H A0 os fun i => if i < shs.length then vsX[i]? else none) (ow own') false) H' p.1 v → Q v H' := fun v σ' H' own' ok' r' => by
          have in' : ∀ a, inO (fun i => if i < shs.length then own'.sl i else []) a → ∃ i, i < shs.length ∧ a ∈ own'.sl i := fun a ⟨i, hi⟩ => by
            dsimp only at hi
            split at hi
            · exact ⟨i, by assumption, hi⟩
            · cases hi
          have avm : ∀ a, Av (Fr.cut H A0 os fun i => if i < shs.length then vsX[i]? else none) (ow own') false a → ¬ inO (fun i => if i < shs.length then own'.sl i else []) a ∧ (H a = none ∨ inO os a ∨ A0 a) := fun a z => by
            refine ⟨fun y => ?_, ?_⟩
            · obtain ⟨i, _, hi⟩ := in' a y
              exact z.1 (.inl ⟨i, hi⟩)
            · rcases z.2.2 with y | y
              · exact (cut_none.mp y).elim (fun y => .inr (.inl y)) .inl
              · exact .inr (.inr y)
          refine q v H' (fun i => if i < shs.length then own'.sl i else []) (fun b o nb e => ok'.same b o nb ?_) (fun a z => ok'.tr a z) ⟨fun i j a h1 h2 => ?_, fun i hi => if_neg (by omega)⟩ (fun a z => ?_) ⟨g1, hX.2.1, fun i sh d v hs hd hv' => ?_⟩ (R.up (Up.same (Same.refl H') avm) _ r')
          · unfold Fr.cut
            dsimp only
            rw [if_neg nb]
            exact e
          · dsimp only at h1 h2
            split at h1
            · split at h2
              · exact ok'.dj i j a h1 h2
              · cases h2
            · cases h1
          · obtain ⟨i, hk, hi⟩ := in' a z
            obtain ⟨q1, q2⟩ := ok'.nw i a hi
            exact ⟨q1, cut_none.mp (q2.resolve_right fun z => by
              have := z.1
              rw [hFe i shs[i] (List.getElem?_eq_getElem hk)] at this
              exact this)⟩
          · have hi : i < shs.length := (List.getElem?_eq_some_iff.mp hs).1
            have sl := ok'.sl i
            unfold Slt at sl
            rw [hFe i sh hs, g2 i d hd] at sl
            obtain ⟨x, _, h2, h3, h4⟩ := sl
            have ex : x = v := by
              have h4' : (if i < shs.length then vsX[i]? else none) = some x := h4
              rw [if_pos hi, hv'] at h4'
              exact (Option.some.inj h4').symm
            subst ex
            show RS G _ H' d sh x (if i < shs.length then own'.sl i else []) ∧ (if i < shs.length then own'.sl i else []).Nodup
            rw [if_pos hi]
            exact ⟨RS.up (Up.same (Same.refl H') avm) _ h2 (fun _ _ _ z => z), h3⟩
        exact ⟨fun v σ' H' own' ok' r' => fin v σ' H' own' ok' r', fun _ en σ' H' own' ok' => fin .non σ' H' own' ok' (by rw [en]; rfl)⟩
  unfold runX at q
  cases eB : stB ((dsX ++ dsR).map some ++ List.replicate m none) with
  | ok fl => rw [eB] at q; exact goM q
  | error er =>
    cases er with
    | stuck => rw [eB] at q; exact goM q
    | raise e =>
      rw [eB] at q
      obtain ⟨x1, x2, x3⟩ := hX
      have rX : RL G (fun _ => True) H dsX vsX := by
        have key : ∀ (shs : List Sh) (ds : List D) (vs : List V) (os : Nat → List Addr), ds.length = shs.length → vs.length = shs.length → (∀ (i : Nat) (sh : Sh) (d : D) (v : V), shs[i]? = some sh → ds[i]? = some d → vs[i]? = some v → RS G A0 H d sh v (os i) ∧ (os i).Nodup) → RL G (fun _ => True) H ds vs := by
          intro shs
          induction shs with
          | nil =>
            intro ds vs os h1 h2 _
            rw [List.length_eq_zero_iff.mp h1, List.length_eq_zero_iff.mp h2]
            rfl
          | cons sh shs ih =>
            intro ds vs os h1 h2 h3
            cases ds with
            | nil => cases h1
            | cons d ds =>
              cases vs with
              | nil => cases h2
              | cons v vs =>
                exact RL.cons (RS.r d (h3 0 sh d v rfl rfl rfl).1 (fun _ _ => trivial) fun _ _ => trivial) (ih ds vs (fun i => os (i + 1)) (by simpa using h1) (by simpa using h2) fun i sh' d' v' e1 e2 e3 => h3 (i + 1) sh' d' v' e1 e2 e3)
        exact key shs dsX vsX os x1 x2 x3
      refine ⟨_, hB _ _ (gs_of S.nd S.kind hr), Fr.new H (fun _ => True), _, Own.new, start_ok hN hv (RL.app rX (r.an fun _ _ => trivial)), ?_⟩
      rw [eB]
      exact fun σ' H' sm => q H' fun b o z => sm b o id z
end
end Pi
namespace Pi
open PySem PySem.Spec PyProof.Rows L2
def SF.shp : SF → Option Sh
  | .dt sh | .ma sh => some sh
  | _ => none
section
variable {G : Gb} {S : Se} {W : WX} {N : List Str} {sc scope : Scope} {k : Nat} {X : Cx} {F F' F1 F2 F3 F4 Fe Fo : List SF} {f f1 f2 : VF} {c : Fr} {en : En} {own own0 own1 : Own} {σ : L2.St} {H H' H0 H1 : Hp} {fl : SF} {sh : Sh}
theorem Ok.getM (ok : Ok G c F en own σ H) {i : Nat} {d : D} (hf : F[i]? = some fl) (hs : fl.shp = some sh) (he : en[i]? = some (some d)) : ∃ x, σ[i]? = some (some x) ∧ RS G (Av c (ow own) false) H d sh x (own.sl i) ∧ (own.sl i).Nodup ∧ (∀ s, fl = .ma s → c.vl i = some x) := by
  have s := ok.sl i
  unfold Slt at s
  rw [he, hf] at s
  cases fl with
  | dt a => cases hs; obtain ⟨x, h1, h2, h3⟩ := s; exact ⟨x, h1, h2, h3, fun s z => by cases z⟩
  | ma a => cases hs; obtain ⟨x, h1, h2, h3, h4⟩ := s; exact ⟨x, h1, h2, h3, fun s z => h4⟩
  | _ => cases hs
theorem Ok.upT (ok : Ok G c F en own σ H) {i : Nat} {v : V} {os' os0 : List Addr} (t0 : ∀ a, a ∈ os0 → own.tm a) (hf : F[i]? = some fl) (hs : fl.shp = some sh) (hσ : σ[i]? = some (some v)) (wr : ∀ a, a ∈ own.sl i → ∃ o, H a = some o ∧ Wr o) (hv : ∀ s, fl = .ma s → c.vl i = some v)
    (kp : ∀ b o, b ∉ own.sl i → H b = some o → H' b = some o) (al : ∀ a, a ∈ own.sl i → H' a ≠ none) (nd : os'.Nodup) (fr : ∀ a, a ∈ os' → H' a ≠ none ∧ (a ∈ own.sl i ∨ H a = none ∨ a ∈ os0)) (dp : Bool) : Up G.K (Av c (ow own) dp) (Av c (ow ⟨fun j => if j = i then os' else own.sl j, fun a => own.tm a ∧ a ∉ os0⟩) dp) H H' := by
  have slj : ∀ {j a}, a ∈ (if j = i then os' else own.sl j) → (j = i ∧ a ∈ os') ∨ (j ≠ i ∧ a ∈ own.sl j) := fun {j a} h => by
    split at h
    · exact .inl ⟨by assumption, h⟩
    · exact .inr ⟨by assumption, h⟩
  have ow' : ∀ a, ow ⟨fun j => if j = i then os' else own.sl j, fun a => own.tm a ∧ a ∉ os0⟩ a → ow own a ∨ H a = none := fun a z => by
    rcases z with ⟨j, hj⟩ | z
    · rcases slj hj with ⟨_, y⟩ | ⟨_, y⟩
      · exact (fr a y).2.elim (fun y => .inl (.inl ⟨i, y⟩)) fun y => y.elim .inr fun y => .inl (.inr (t0 a y))
      · exact .inl (.inl ⟨j, y⟩)
    · exact .inl (.inr z.1)
  have av : ∀ a o, Av c (ow own) dp a → H a = some o → Av c (ow ⟨fun j => if j = i then os' else own.sl j, fun a => own.tm a ∧ a ∉ os0⟩) dp a ∧ H' a = some o := fun a o h e =>
    ⟨⟨(fun z => (ow' a z).elim h.1 fun y => by rw [y] at e; cases e), h.2⟩, kp a o (fun y => h.1 (.inl ⟨i, y⟩)) e⟩
  have im : ∀ a o, H a = some o → ¬ Wr o → H' a = some o := fun a o e w => kp a o (fun y => by
    obtain ⟨o', e', w'⟩ := wr a y
    rw [e] at e'
    cases e'
    exact w w') e
  refine ⟨fun a xs m e => av a _ m e, fun a xs m e => ?_, fun a C dx fs m e => av a _ m e, fun a xs e => ?_, fun a xs e => e.imp (fun ⟨o, e⟩ => ⟨o, im a _ e id⟩) id⟩
  · rcases e with e | ⟨o, e⟩
    · exact ⟨(av a _ m e).1, .inl (av a _ m e).2⟩
    · exact ⟨(av a _ m e).1, .inr ⟨o, (av a _ m e).2⟩⟩
  · rcases e with e | ⟨o, e⟩
    · exact .inl (im a _ e id)
    · exact .inr ⟨o, im a _ e id⟩
theorem Ok.chT (ok : Ok G c F en own σ H) {i : Nat} {d' : D} {v : V} {os' os0 : List Addr} (t0 : ∀ a, a ∈ os0 → own.tm a) (hf : F[i]? = some fl) (hs : fl.shp = some sh) (hσ : σ[i]? = some (some v)) (wr : ∀ a, a ∈ own.sl i → ∃ o, H a = some o ∧ Wr o) (hv : ∀ s, fl = .ma s → c.vl i = some v)
    (kp : ∀ b o, b ∉ own.sl i → H b = some o → H' b = some o) (al : ∀ a, a ∈ own.sl i → H' a ≠ none) (nd : os'.Nodup) (fr : ∀ a, a ∈ os' → H' a ≠ none ∧ (a ∈ own.sl i ∨ H a = none ∨ a ∈ os0))
    (new : RS G (Av c (ow ⟨fun j => if j = i then os' else own.sl j, fun a => own.tm a ∧ a ∉ os0⟩) false) H' d' sh v os') : Ok G c F (en.set i (some d')) ⟨fun j => if j = i then os' else own.sl j, fun a => own.tm a ∧ a ∉ os0⟩ σ H' := by
  have nz : ¬ SF.zf (some fl) := fun z => by cases fl <;> first | exact z | cases hs
  have h0 : ∀ a, a ∈ own.sl i → c.H0 a = none := fun a ha => (ok.nw i a ha).2.resolve_right fun z => nz (by rw [← hf]; exact z.1)
  have hi : i < F.length := (List.getElem?_eq_some_iff.mp hf).1
  have nn : ∀ a, H a ≠ none → H' a ≠ none := fun a h => by
    by_cases e : a ∈ own.sl i
    · exact al a e
    · cases q : H a with
      | none => exact absurd q h
      | some o => rw [kp a o e q]; simp
  have slj : ∀ {j a}, a ∈ (if j = i then os' else own.sl j) → (j = i ∧ a ∈ os') ∨ (j ≠ i ∧ a ∈ own.sl j) := fun {j a} h => by
    split at h
    · exact .inl ⟨by assumption, h⟩
    · exact .inr ⟨by assumption, h⟩
  have apart : ∀ j a, j ≠ i → a ∈ own.sl j → a ∉ os' := fun j a ne h z => by
    rcases (fr a z).2 with y | y | y
    · exact ne (ok.dj j i a h y)
    · exact (ok.nw j a h).1 y
    · exact ok.dt j a h (t0 a y)
  have tms : ∀ a, own.tm a ∧ a ∉ os0 → a ∉ own.sl i ∧ a ∉ os' := fun a t => ⟨fun y => ok.dt i a y t.1, fun z => by
    rcases (fr a z).2 with y | y | y
    · exact ok.dt i a y t.1
    · exact (ok.nt a t.1).1 y
    · exact t.2 y⟩
  have ow' : ∀ a, ow ⟨fun j => if j = i then os' else own.sl j, fun a => own.tm a ∧ a ∉ os0⟩ a → ow own a ∨ H a = none := fun a z => by
    rcases z with ⟨j, hj⟩ | z
    · rcases slj hj with ⟨_, y⟩ | ⟨_, y⟩
      · exact (fr a y).2.elim (fun y => .inl (.inl ⟨i, y⟩)) fun y => y.elim .inr fun y => .inl (.inr (t0 a y))
      · exact .inl (.inl ⟨j, y⟩)
    · exact .inl (.inr z.1)
  have up : ∀ dp, Up G.K (Av c (ow own) dp) (Av c (ow ⟨fun j => if j = i then os' else own.sl j, fun a => own.tm a ∧ a ∉ os0⟩) dp) H H' := fun dp => by
    have av : ∀ a o, Av c (ow own) dp a → H a = some o → Av c (ow ⟨fun j => if j = i then os' else own.sl j, fun a => own.tm a ∧ a ∉ os0⟩) dp a ∧ H' a = some o := fun a o h e =>
      ⟨⟨(fun z => (ow' a z).elim h.1 fun y => by rw [y] at e; cases e), h.2⟩, kp a o (fun y => h.1 (.inl ⟨i, y⟩)) e⟩
    have im : ∀ a o, H a = some o → ¬ Wr o → H' a = some o := fun a o e w => kp a o (fun y => by
      obtain ⟨o', e', w'⟩ := wr a y
      rw [e] at e'
      cases e'
      exact w w') e
    refine ⟨fun a xs m e => av a _ m e, fun a xs m e => ?_, fun a C dx fs m e => av a _ m e, fun a xs e => ?_, fun a xs e => e.imp (fun ⟨o, e⟩ => ⟨o, im a _ e id⟩) id⟩
    · rcases e with e | ⟨o, e⟩
      · exact ⟨(av a _ m e).1, .inl (av a _ m e).2⟩
      · exact ⟨(av a _ m e).1, .inr ⟨o, (av a _ m e).2⟩⟩
    · rcases e with e | ⟨o, e⟩
      · exact .inl (im a _ e id)
      · exact .inr ⟨o, im a _ e id⟩
  refine ⟨ok.lF, by simpa using ok.lE, fun b o nb e => ?_, fun a s => nn a (ok.tr a s), fun j1 j2 a q1 q2 => ?_, fun j a q t => ?_, fun a t => ⟨nn a (ok.nt a t.1).1, (ok.nt a t.1).2⟩, fun j a q => ?_, fun j => ?_, fun a o e => ?_⟩
  · exact kp b o (fun y => by rw [h0 b y] at e; cases e) (ok.same b o nb e)
  · rcases slj q1 with ⟨e1, y1⟩ | ⟨e1, y1⟩
    · rcases slj q2 with ⟨e2, y2⟩ | ⟨e2, y2⟩
      · rw [e1, e2]
      · exact absurd y1 (apart j2 a e2 y2)
    · rcases slj q2 with ⟨e2, y2⟩ | ⟨e2, y2⟩
      · exact absurd y2 (apart j1 a e1 y1)
      · exact ok.dj j1 j2 a y1 y2
  · rcases slj q with ⟨_, y⟩ | ⟨_, y⟩
    · exact (tms a t).2 y
    · exact ok.dt j a y t.1
  · rcases slj q with ⟨_, y⟩ | ⟨_, y⟩
    · exact ⟨(fr a y).1, .inl ((fr a y).2.elim (h0 a) fun y => y.elim ok.free fun y => (ok.nt a (t0 a y)).2)⟩
    · exact ⟨nn a (ok.nw j a y).1, (ok.nw j a y).2⟩
  · by_cases e : j = i
    · subst e
      unfold Slt
      rw [hf, List.getElem?_set_self (by rw [ok.lE, ← ok.lF]; exact hi)]
      have es : (⟨fun k => if k = j then os' else own.sl k, fun a => own.tm a ∧ a ∉ os0⟩ : Own).sl j = os' := if_pos rfl
      cases fl with
      | dt a =>
        cases hs
        refine ⟨v, hσ, ?_⟩
        rw [es]
        exact ⟨new, nd⟩
      | ma a =>
        cases hs
        refine ⟨v, hσ, ?_⟩
        rw [es]
        exact ⟨new, nd, hv _ rfl⟩
      | _ => cases hs
    · have h := ok.sl j
      have es : (⟨fun k => if k = i then os' else own.sl k, fun a => own.tm a ∧ a ∉ os0⟩ : Own).sl j = own.sl j := if_neg e
      have pj : ∀ a o, a ∈ own.sl j → H a = some o → H' a = some o := fun a o ha hx => kp a o (fun y => e (ok.dj j i a ha y)) hx
      unfold Slt at h ⊢
      rw [List.getElem?_set_ne (fun z => e z.symm), es]
      split
      · rename_i dp' d hf' he; rw [hf', he] at h; obtain ⟨x, h1, h2⟩ := h; exact ⟨x, h1, R.up (up _) _ h2⟩
      · rename_i dp' d hf' he; rw [hf', he] at h; obtain ⟨x, h1, h2⟩ := h; exact ⟨x, h1, RO.up h2 (up _) pj⟩
      · rename_i d hf' he; rw [hf', he] at h; obtain ⟨x, h1, h2, h3⟩ := h; exact ⟨x, h1, RO.up h2 (up _) pj, h3⟩
      · rename_i hf'; rw [hf'] at h; simpa using h
      · rename_i sh d hf' he; rw [hf', he] at h; obtain ⟨x, h1, h2, h3⟩ := h; exact ⟨x, h1, RS.up (up _) _ h2 pj, h3⟩
      · rename_i sh d hf' he; rw [hf', he] at h; obtain ⟨x, h1, h2, h3⟩ := h; exact ⟨x, h1, RS.up (up _) _ h2 pj, h3⟩
      · trivial
  · obtain ⟨q1, q2⟩ := ok.lk a o e
    have na : a ∉ own.sl i := fun y => by
      obtain ⟨o', e', w'⟩ := wr a y
      rw [q1] at e'
      cases e'
      rcases q2 with q2 | q2
      · cases o <;> first | exact w'.elim | exact q2.elim
      · exact q2 (.inl ⟨i, y⟩)
    exact ⟨kp a o na q1, q2.imp id fun n z => (ow' a z).elim n fun y => by rw [y] at q1; cases q1⟩
end
section
variable {G : Gb} {S : Se} {W : WX} {N : List Str} {sc scope : Scope} {k : Nat} {X : Cx} {F F' F1 F2 F3 F4 Fe Fo : List SF} {f f1 f2 : VF} {c : Fr} {en : En} {own own0 own1 : Own} {σ : L2.St} {H H' H0 H1 : Hp} {fl : SF} {sh : Sh}
end
end Pi
namespace Pi
open PySem PySem.Spec PyProof.Rows L2
section
variable {G : Gb} {A A' : Addr → Prop} {H H' : Hp}
theorem RS_s {d : D} {v : V} {os : List Addr} : RS G A H d .s v os ↔ os = [] ∧ R G A H d v := by
  cases d with
  | tup l => unfold RS; exact ⟨fun h => h.2, fun h => ⟨rfl, h⟩⟩
  | lst l => unfold RS; exact ⟨fun h => h.2, fun h => ⟨rfl, h⟩⟩
  | dct ks l => unfold RS; exact ⟨fun h => h.2, fun h => ⟨rfl, h⟩⟩
  | obj c l => unfold RS; exact ⟨fun h => h.2, fun h => ⟨rfl, h⟩⟩
  | scr l => unfold RS; exact Iff.rfl
  | non => unfold RS R; exact Iff.rfl
  | bl b => unfold RS R; exact Iff.rfl
  | int i => unfold RS R; exact Iff.rfl
  | str x => unfold RS R; exact Iff.rfl
  | exc e => unfold RS; exact ⟨fun h => h.elim, fun h => h.2⟩
theorem RSP_s : ∀ {l : List D} {xs : List V} {os : List Addr}, RSP G A H l (.rep .s) xs os ↔ os = [] ∧ RL G A H l xs
  | [], xs, os => by unfold RSP RL; exact ⟨fun h => ⟨h.2, h.1⟩, fun h => ⟨h.2, h.1⟩⟩
  | d :: l, xs, os => by
    unfold RSP RL
    constructor
    · rintro ⟨x, r, o1, o2, e1, e2, h1, h2⟩
      obtain ⟨z1, h1⟩ := RS_s.mp h1
      obtain ⟨z2, h2⟩ := RSP_s.mp h2
      exact ⟨by rw [e2, z1, z2]; rfl, x, r, e1, h1, h2⟩
    · rintro ⟨z, x, r, e1, h1, h2⟩
      exact ⟨x, r, [], [], e1, by rw [z]; rfl, RS_s.mpr ⟨rfl, h1⟩, RSP_s.mpr ⟨rfl, h2⟩⟩
theorem RS_od {ks : List Key} {l : List D} {v : V} {os : List Addr} : RS G A H (.dct ks l) (.o .s) v os ↔ ∃ a kvs, v = .ref a ∧ os = [a] ∧ H a = some (.dK kvs) ∧ kvs.map (·.1) = ks ∧ RL G A H l (kvs.map (·.2)) := by
  unfold RS
  show (∃ a kvs r, v = .ref a ∧ os = a :: r ∧ H a = some (.dK kvs) ∧ kvs.map (·.1) = ks ∧ RSP G A H l (.rep .s) (kvs.map (·.2)) r) ↔ _
  constructor
  · rintro ⟨a, kvs, r, e1, e2, e3, e4, e5⟩
    obtain ⟨z, h⟩ := RSP_s.mp e5
    exact ⟨a, kvs, e1, by rw [e2, z], e3, e4, h⟩
  · rintro ⟨a, kvs, e1, e2, e3, e4, e5⟩
    exact ⟨a, kvs, [], e1, e2, e3, e4, RSP_s.mpr ⟨rfl, e5⟩⟩
theorem RS_ol {l : List D} {v : V} {os : List Addr} : RS G A H (.lst l) (.o .s) v os ↔ ∃ a xs, v = .ref a ∧ os = [a] ∧ H a = some (.lst xs) ∧ RL G A H l xs := by
  unfold RS
  show (∃ a xs r, v = .ref a ∧ os = a :: r ∧ H a = some (.lst xs) ∧ RSP G A H l (.rep .s) xs r) ↔ _
  constructor
  · rintro ⟨a, kvs, r, e1, e2, e3, e5⟩
    obtain ⟨z, h⟩ := RSP_s.mp e5
    exact ⟨a, kvs, e1, by rw [e2, z], e3, h⟩
  · rintro ⟨a, kvs, e1, e2, e3, e5⟩
    exact ⟨a, kvs, [], e1, e2, e3, RSP_s.mpr ⟨rfl, e5⟩⟩
end
def isLD : D → Bool
  | .lst _ | .dct _ _ => true
  | _ => false
section
variable {G : Gb} {S : Se} {W : WX} {N : List Str} {sc scope : Scope} {k : Nat} {X : Cx} {F F' F1 F2 F3 F4 Fe Fo : List SF} {f f1 f2 : VF} {c : Fr} {en : En} {own own0 own1 : Own} {σ : L2.St} {H H' H0 H1 : Hp} {fl : SF} {sh : Sh} {b : Bool}
theorem dss_stuck {sts : List Stmt} : PSs X sts (TSv G S F Fo sStuck) := ⟨fun _ _ _ _ _ _ h => by obtain ⟨_, _, _, _, m⟩ := h; exact m.elim⟩
end
theorem runX_of {k m : Nat} {stB : EvS} {stM : EvX} {ds : List D} {p : D × En} {news : List D} (hB : stB (ds.map some ++ List.replicate m none) = .error .stuck ∨ ∃ fl, stB (ds.map some ++ List.replicate m none) = .ok fl) (hM : stM (ds.map some ++ List.replicate m none) = .ok p) (hg : grab k p.2 = some news) : runX k m stB stM ds = .ok (.tup (p.1 :: news)) := by
  unfold runX
  rcases hB with h | ⟨fl, h⟩ <;> rw [h, hM] <;> dsimp only <;> rw [hg]
end Pi
namespace Pi
open PySem PySem.Spec PyProof.Rows L2
def Sh.at : Sh → Nat → Sh
  | z, 0 => z.hd
  | z, j + 1 => z.tl.at j
section
variable {G : Gb} {A A' : Addr → Prop} {H H' : Hp}
theorem RSP_at {d : D} {v : V} {oj : List Addr} : ∀ {l : List D} {fs : Sh} {xs : List V} {os : List Addr} {j : Nat}, RSP G A H l fs xs os → j ≤ l.length → RS G A H d (fs.at j) v oj → os.Nodup → oj.Nodup → (∀ a, a ∈ oj → a ∉ os) →
    ∃ os', RSP G A H (setD l j d) fs (if j = l.length then xs ++ [v] else xs.set j v) os' ∧ (∀ a, a ∈ os' → a ∈ os ∨ a ∈ oj) ∧ os'.Nodup
  | [], fs, xs, os, j, h, hj, hd, n1, n2, n3 => by
    unfold RSP at h
    obtain ⟨rfl, rfl⟩ := h
    have : j = 0 := by simpa using hj
    subst this
    refine ⟨oj, ?_, fun a h => .inr h, n2⟩
    show RSP G A H [d] fs [v] oj
    unfold RSP
    exact ⟨v, [], oj, [], rfl, by simp, hd, by unfold RSP; exact ⟨rfl, rfl⟩⟩
  | d0 :: l, fs, xs, os, 0, h, hj, hd, n1, n2, n3 => by
    unfold RSP at h
    obtain ⟨x, r, o1, o2, rfl, rfl, h1, h2⟩ := h
    obtain ⟨m1, m2, m3⟩ := List.nodup_append.mp n1
    refine ⟨oj ++ o2, ?_, fun a h => (List.mem_append.mp h).elim .inr fun z => .inl (List.mem_append_right _ z), ?_⟩
    · rw [if_neg (by simp)]
      show RSP G A H (d :: l) fs (v :: r) (oj ++ o2)
      unfold RSP
      exact ⟨v, r, oj, o2, rfl, rfl, hd, h2⟩
    · rw [List.nodup_append]
      exact ⟨n2, m2, fun a ha b hb e => n3 a ha (by rw [e]; exact List.mem_append_right _ hb)⟩
  | d0 :: l, fs, xs, os, j + 1, h, hj, hd, n1, n2, n3 => by
    unfold RSP at h
    obtain ⟨x, r, o1, o2, rfl, rfl, h1, h2⟩ := h
    obtain ⟨m1, m2, m3⟩ := List.nodup_append.mp n1
    obtain ⟨o3, q1, q2, q3⟩ := RSP_at (j := j) h2 (by simpa using hj) hd m2 n2 fun a ha z => n3 a ha (List.mem_append_right _ z)
    refine ⟨o1 ++ o3, ?_, fun a h => (List.mem_append.mp h).elim (fun z => .inl (List.mem_append_left _ z)) fun z => (q2 a z).imp (fun y => List.mem_append_right _ y) id, ?_⟩
    · have e1 : setD (d0 :: l) (j + 1) d = d0 :: setD l j d := by
        unfold setD
        by_cases e : j = l.length
        · rw [if_pos (by simp [e]), if_pos e]; rfl
        · rw [if_neg (by simp [e]), if_neg e]; rfl
      have e2 : (if j + 1 = (d0 :: l).length then (x :: r) ++ [v] else (x :: r).set (j + 1) v) = x :: (if j = l.length then r ++ [v] else r.set j v) := by
        by_cases e : j = l.length
        · rw [if_pos (by simp [e]), if_pos e]; rfl
        · rw [if_neg (by simp [e]), if_neg e]; rfl
      rw [e1, e2]
      unfold RSP
      exact ⟨x, _, o1, o3, rfl, rfl, h1, q1⟩
    · rw [List.nodup_append]
      refine ⟨m1, q3, fun a ha b hb e => ?_⟩
      rcases q2 b hb with z | z
      · exact m3 a ha b z e
      · exact n3 b z (by rw [← e]; exact List.mem_append_left _ ha)
theorem RS_om {c : Nat} {l : List D} {fs : Sh} {v : V} {os : List Addr} : RS G A H (.obj c l) (.m fs) v os ↔ ∃ a dx flds r, v = .ref a ∧ os = a :: r ∧ H a = some (.ins (G.ca c) dx flds) ∧ flds.map (·.1) = (G.cf c).take l.length ∧ RSP G A H l fs (flds.map (·.2)) r := by
  unfold RS
  exact Iff.rfl
end
def fldOk (sh : Sh) (f : VF) : Bool := match sh with
  | .s => f.nb
  | .o .s => match f with
    | .uq _ => true
    | _ => false
  | _ => false
def sSetM (i c j : Nat) (sh : Sh) (ev : EvE) : EvS := fun en => bnd (ev en) fun d => match en[i]? with
  | some (some (.obj c' l)) => if c' = c ∧ j ≤ l.length ∧ (sh = .s ∨ isLD d = true) then .ok (.nx (en.set i (some (.obj c (setD l j d))))) else .error .stuck
  | _ => .error .stuck
section
variable {G : Gb} {S : Se} {W : WX} {N : List Str} {sc scope : Scope} {k : Nat} {X : Cx} {F F' F1 F2 F3 F4 Fe Fo : List SF} {f f1 f2 fv : VF} {c : Fr} {en : En} {own own0 own1 : Own} {σ : L2.St} {H H' H0 H1 : Hp} {fl : SF} {sh fs : Sh} {b : Bool}
theorem Ok.setM {c0 j : Nat} {x f : Str} {ks : List Str} {l : List D} {d : D} {v : V} {oj : List Addr} {i : Nat} (ok : Ok G c F en own σ H) (C : Ccl G c0 x ks) (hf : F[i]? = some fl) (hsh : fl.shp = some (.m fs)) (hen : en[i]? = some (some (.obj c0 l))) (hjl : j ≤ l.length) (hj : ks[j]? = some f)
    (r : RS G (Av c (ow own) false) H d (fs.at j) v oj) (t0 : ∀ a, a ∈ oj → own.tm a) (nj : oj.Nodup) :
    ∃ p dx flds, σ[i]? = some (some (.ref p)) ∧ H p = some (.ins (G.ca c0) dx flds) ∧ flds.length ≤ ks.length ∧ ∃ own', Ok G c F (en.set i (some (.obj c0 (setD l j d)))) own' σ (upd H p (.ins (G.ca c0) dx (putF f v flds))) ∧ Up G.K (Av c (ow own) false) (Av c (ow own') false) H (upd H p (.ins (G.ca c0) dx (putF f v flds))) := by
  obtain ⟨xv, hσ, hR, nd, hvl⟩ := ok.getM hf hsh hen
  have wr := RS.wr _ hR
  obtain ⟨p, dx, flds, os, rfl, eo, e1, e2, e3⟩ := RS_om.mp hR
  rw [C.cf] at e2
  have hlen : flds.length = l.length := by
    have := RSP.len l e3
    rw [List.length_map] at this
    exact this
  have hjk : j < ks.length := (List.getElem?_eq_some_iff.mp hj).1
  have le : flds.length ≤ ks.length := by
    have := congrArg List.length e2
    simp only [List.length_map, List.length_take] at this
    omega
  refine ⟨p, dx, flds, hσ, e1, le, ?_⟩
  have po : p ∈ own.sl i := by rw [eo]; exact List.mem_cons_self
  have nA : ∀ dp, ¬ Av c (ow own) dp p := fun dp z => z.1 (.inl ⟨i, po⟩)
  have nd2 : p ∉ os ∧ os.Nodup := by rw [eo] at nd; exact List.nodup_cons.mp nd
  have up : Up G.K (Av c (ow own) false) (Av c (ow own) false) H (upd H p (.ins (G.ca c0) dx (putF f v flds))) := Up.write e1 trivial (nA _)
  have jos : ∀ a, a ∈ oj → a ∉ own.sl i := fun a ha z => ok.dt i a z (t0 a ha)
  have r' := RS.up up d r fun a o ha hx => by
    rw [upd_ne (fun e => jos a ha (by rw [e]; exact po))]; exact hx
  have e3' := RSP.up up l e3 fun a o ha hx => by
    rw [upd_ne (fun e => nd2.1 (by rw [← e]; exact ha))]; exact hx
  obtain ⟨os', q1, q2, q3⟩ := RSP_at (j := j) e3' hjl r' nd2.2 nj fun a ha z => jos a ha (by rw [eo]; exact List.mem_cons_of_mem _ z)
  have names : (putF f v flds).map (·.1) = ks.take (setD l j d).length ∧ (putF f v flds).map (·.2) = if j = l.length then flds.map (·.2) ++ [v] else (flds.map (·.2)).set j v := by
    unfold setD
    by_cases hjq : j = l.length
    · rw [if_pos hjq, if_pos hjq, putF_new]
      · refine ⟨?_, by rw [List.map_append]; rfl⟩
        rw [List.map_append, e2, List.length_append, hjq.symm]
        rw [List.map_cons, List.map_nil]
        rw [show j + [d].length = j + 1 from rfl, List.take_add_one]
        rw [hj]
        rfl
      · rw [e2]
        intro hmem
        have : f ∈ ks.take j := by rw [hjq]; exact hmem
        obtain ⟨t, ht, et⟩ := List.mem_iff_getElem.mp this
        rw [List.length_take] at ht
        have h3 : ks[t]? = some f := by
          rw [List.getElem?_eq_getElem (by omega)]
          rw [List.getElem_take] at et
          rw [et]
        have h4 := (List.getElem?_inj (by omega) C.nd).mp (h3.trans hj.symm)
        omega
    · rw [if_neg hjq, if_neg hjq, List.length_set]
      have hjl2 : j < l.length := by omega
      obtain ⟨q1, q2⟩ := putF_at (f := f) (v := v) (fs := flds) (j := j) (by rw [e2]; exact C.nd.sublist (List.take_sublist _ _)) (by rw [e2, List.getElem?_take_of_lt hjl2]; exact hj)
      exact ⟨by rw [q1, e2], q2⟩
  have al : ∀ a, H a ≠ none → upd H p (.ins (G.ca c0) dx (putF f v flds)) a ≠ none := fun a h => by
    by_cases e : a = p
    · rw [e, upd_same]; simp
    · rw [upd_ne e]; exact h
  have kp : ∀ b o, b ∉ own.sl i → H b = some o → upd H p (.ins (G.ca c0) dx (putF f v flds)) b = some o := fun b o nb e => by
    rw [upd_ne (fun y => nb (by rw [y]; exact po))]; exact e
  have nd3 : (p :: os').Nodup := by
    refine List.nodup_cons.mpr ⟨fun z => ?_, q3⟩
    rcases q2 p z with y | y
    · exact nd2.1 y
    · exact jos p y po
  have fr : ∀ a, a ∈ p :: os' → upd H p (.ins (G.ca c0) dx (putF f v flds)) a ≠ none ∧ (a ∈ own.sl i ∨ H a = none ∨ a ∈ oj) := fun a ha => by
    rcases List.mem_cons.mp ha with z | z
    · rw [z]; exact ⟨al p (by rw [e1]; simp), .inl po⟩
    · rcases q2 a z with y | y
      · have : a ∈ own.sl i := by rw [eo]; exact List.mem_cons_of_mem _ y
        exact ⟨al a (ok.nw i a this).1, .inl this⟩
      · exact ⟨al a (ok.nt a (t0 a y)).1, .inr (.inr y)⟩
  refine ⟨_, ok.chT (os' := p :: os') (os0 := oj) t0 hf hsh hσ wr hvl kp (fun a ha => al a (ok.nw i a ha).1) nd3 fr ?_, ok.upT (os' := p :: os') (os0 := oj) t0 hf hsh hσ wr hvl kp (fun a ha => al a (ok.nw i a ha).1) nd3 fr false⟩
  refine RS_om.mpr ⟨p, dx, putF f v flds, os', rfl, rfl, upd_same, by rw [C.cf]; exact names.1, ?_⟩
  rw [names.2]
  refine RSP.up (Up.sub (fun a z => ?_) rfl) _ q1 fun _ _ _ z => z
  rcases z with ⟨k, z⟩ | z
  · dsimp only at z
    split at z
    · rename_i ek
      rcases List.mem_cons.mp z with z | z
      · exact .inl ⟨i, by rw [z]; exact po⟩
      · rcases q2 a z with y | y
        · exact .inl ⟨i, by rw [eo]; exact List.mem_cons_of_mem _ y⟩
        · exact .inr (t0 a y)
    · exact .inl ⟨k, z⟩
  · exact .inr z.1
theorem ds_setM (g : Gv G N sc X) {c0 j : Nat} {x f : Str} {ks : List Str} (C : Ccl G c0 x ks) (i : Nat) {y : Str} {px apos pos : Pos} {e : Expr} {ev : EvE} (he : PE X e (TEv G S.W F F1 fv ev)) (hN : N[i]? = some y := by rfl) (hv : visB sc y = true := by rfl) (hx : nameB y = true := by rfl) (hf : F1[i]? = some fl := by rfl) (hsh : fl.shp = some (.m fs) := by rfl) (hfo : fldOk (fs.at j) fv = true := by rfl) (hj : ks[j]? = some f := by rfl) (hk : ks.length < 1000 := by decide)
    (hs : swapsWith e (some (.Attribute (.Name y px) f apos)) pos.line X.env = pure false := by rfl) : PS X (.Assign [.Attribute (.Name y px) f apos] e pos) (TSv G S F F1 (sSetM i c0 j (fs.at j) ev)) := by
  obtain ⟨h1, h2, _⟩ := nameB_d hx
  refine ps_imp (ps_fld (pe_var (i := i) (by rw [g.nN]; exact hN) (visB_vis hv g.sc) h1 h2) he hs) ?_
  rintro D σ H ⟨c, en, own, ok, m⟩
  refine ⟨c, en, own, ok, m.bnd.e.imp fun d _ q v H1 own1 ok1 s1 b1 r1 => ?_⟩
  split at q
  · rename_i c' l hen
    split at q
    · rename_i hc
      obtain ⟨rfl, hjl, hld⟩ := hc
      have key : ∃ own2 oj, Ok G c F1 en own2 σ H1 ∧ RS G (Av c (ow own2) false) H1 d (fs.at j) v oj ∧ (∀ a, a ∈ oj → own2.tm a) ∧ oj.Nodup := by
        revert hfo hld
        generalize fs.at j = shj
        intro hfo hld
        unfold fldOk at hfo
        split at hfo
        · obtain ⟨own2, ok2, _, a2⟩ := RV.share (f := fv) ok1 r1 hfo
          exact ⟨own2, [], ok2, RS_s.mpr ⟨rfl, R.up (Up.sub (fun _ h => h) (by cases fv.dp <;> rfl)) _ a2⟩, (fun a h => by cases h), List.nodup_nil⟩
        · cases fv with
          | uq dp =>
            obtain ⟨os, r0, t0⟩ := r1
            have hl := hld.resolve_left (by simp)
            have up : Up G.K (Av c (ow own1) dp) (Av c (ow own1) false) H1 H1 := Up.sub (fun _ h => h) (by cases dp <;> rfl)
            cases d with
            | lst l => obtain ⟨a, xs, e1, e2, e3, e4⟩ := r0; exact ⟨own1, os, ok1, RS_ol.mpr ⟨a, xs, e1, e2, e3, RL.up up _ e4⟩, t0, by rw [e2]; exact List.nodup_cons.mpr ⟨List.not_mem_nil, List.nodup_nil⟩⟩
            | dct ks l => obtain ⟨a, kvs, e1, e2, e3, e4, e5⟩ := r0; exact ⟨own1, os, ok1, RS_od.mpr ⟨a, kvs, e1, e2, e3, e4, RL.up up _ e5⟩, t0, by rw [e2]; exact List.nodup_cons.mpr ⟨List.not_mem_nil, List.nodup_nil⟩⟩
            | _ => cases hl
          | sh _ => cases hfo
          | bo _ => cases hfo
        · cases hfo
      obtain ⟨own2, oj, ok2, r2, t2, n2⟩ := key
      obtain ⟨p, dx, flds, hσ, e1, le, own3, ok3, _⟩ := ok2.setM C hf hsh hen hjl hj r2 t2 n2
      exact ⟨.ref p, hσ, p, G.ca c', dx, flds, rfl, e1, by rw [g.K]; exact C.cls, by rw [g.K]; exact C.na f (List.mem_of_getElem? hj), by omega, q _ _ own3 ok3⟩
    · exact q.elim
  · exact q.elim
end
end Pi
namespace Pi
open PySem PySem.Spec PyProof.Rows L2
section
variable {G : Gb} {S : Se} {W : WX} {N : List Str} {sc scope : Scope} {k : Nat} {X : Cx} {F F' F1 F2 F3 F4 Fe Fo : List SF} {f f1 f2 fv : VF} {c : Fr} {en : En} {own own0 own1 : Own} {σ : L2.St} {H H' H0 H1 : Hp} {fl : SF} {sh fs : Sh} {b : Bool}
structure MakX (G : Gb) (j : Nat) (c : Nat) (sh : Sh) (n : Nat) (fn : List D → Rs D) : Prop where
  ex : ∃ (f : Addr) (fd : FuncData) (ps : List Str), Mk G.K (G.ca c) f ∧ FnOk G.P G.w G.K G.mg G.base (L2.CX G.P G.w) j f fd ps (spX G [sh] (n + 1) fn) ∧ Binds G.K fd ps []
end
end Pi
namespace Pi
open PySem PySem.Spec PyProof.Rows L2
section
variable {G : Gb} {A A' : Addr → Prop} {H H' : Hp}
end
section
variable {G : Gb} {S : Se} {W : WX} {N : List Str} {sc scope : Scope} {k : Nat} {X : Cx} {F F' F1 F2 F3 F4 Fe Fo : List SF} {f f1 f2 fv : VF} {c : Fr} {en : En} {own own0 own1 : Own} {σ : L2.St} {H H' H0 H1 : Hp} {fl : SF} {sh fs : Sh} {b : Bool}
end
end Pi
namespace L2
open PySem PySem.Spec PyProof.Rows
end L2
namespace Pi
open PySem PySem.Spec PyProof.Rows L2
section
variable {G : Gb} {S : Se} {W : WX} {N : List Str} {sc scope : Scope} {k : Nat} {X : Cx} {F F' F1 F2 F3 F4 Fe Fo : List SF} {f f1 f2 fv : VF} {c : Fr} {en : En} {own own0 own1 : Own} {σ : L2.St} {H H' H0 H1 : Hp} {fl : SF} {sh fs : Sh} {b : Bool}
end
end Pi
namespace Pi
open PySem PySem.Spec PyProof.Rows L2
section
variable {G : Gb} {S : Se} {W : WX} {N : List Str} {sc scope : Scope} {k : Nat} {X : Cx} {F F' F1 F2 F3 F4 Fe Fo : List SF} {f f1 f2 fv : VF} {c : Fr} {en : En} {own own0 own1 : Own} {σ : L2.St} {H H' H0 H1 : Hp} {fl : SF} {sh fs : Sh} {b : Bool}
end
end Pi
namespace Pi
open PySem PySem.Spec PyProof.Rows L2
section
variable {G : Gb} {S : Se} {W : WX} {N : List Str} {sc scope : Scope} {k : Nat} {X : Cx} {F F' F1 F2 F3 F4 Fe Fo : List SF} {f f1 f2 fv : VF} {c : Fr} {en : En} {own own0 own1 : Own} {σ : L2.St} {H H' H0 H1 : Hp} {fl : SF} {sh fs : Sh} {b : Bool}
end
end Pi
namespace Pi
open PySem PySem.Spec PyProof.Rows L2
section
variable {G : Gb}
end
end Pi
namespace Pi
open PySem PySem.Spec PyProof.Rows L2
section
variable {G : Gb} {S : Se} {W : WX} {N : List Str} {sc scope : Scope} {k : Nat} {X : Cx} {F F' F1 F2 F3 F4 Fe Fo : List SF} {f f1 f2 fv : VF} {c : Fr} {en : En} {own own0 own1 : Own} {σ : L2.St} {H H' H0 H1 : Hp} {fl : SF} {sh fs : Sh} {b : Bool}
end
section
variable {G : Gb} {S : Se} {W : WX} {N : List Str} {sc scope : Scope} {k : Nat} {X : Cx} {F F' F1 F2 F3 F4 Fe Fo : List SF} {f f1 f2 fv : VF} {c : Fr} {en : En} {own own0 own1 : Own} {σ : L2.St} {H H' H0 H1 : Hp} {fl gl : SF} {sh sg fs : Sh} {b : Bool}
def Own.two (own : Own) (i j : Nat) (o1 o2 : List Addr) : Own := ⟨fun k => if k = i then o1 else if k = j then o2 else own.sl k, own.tm⟩
end
end Pi
namespace Pi
open PySem PySem.Spec PyProof.Rows L2
abbrev wB (W : WX) (σ : L2.St) : WX := fun cls d _ H => W cls d σ H
end Pi
namespace Pi
open PySem PySem.Spec PyProof.Rows L2
section
variable {X : Cx}
end
end Pi
namespace Pi
open PySem PySem.Spec PyProof.Rows L2
section
variable {G : Gb} {S : Se} {W : WX} {N : List Str} {sc scope : Scope} {k : Nat} {X : Cx} {F F1 F2 F3 F4 Fh : List SF} {Fo : List SF} {f f1 f2 : VF} {c : Fr} {en : En} {own own0 own1 : Own} {σ : L2.St} {H H' H0 H1 : Hp} {Da : Addr} {vs : List Nat}
theorem Mt.blk {α β : Type} {r : Rs α} {g : α → Rs β} {q : β → Prop} {k : α → Prop} {cb : Fr} {σ2 : L2.St} (h : Mt G W c σ (Pi.bnd r g) q) (hs : ∀ H', cb.Sm H' → c.Sm H') (m : ∀ a, r = .ok a → Mt G W c σ (g a) q → k a) : Mt G (wB W σ) cb σ2 r k := by
  cases r with
  | ok a => exact m a rfl h
  | error e => cases e with
    | raise e => exact fun H' s => h H' (hs H' s)
    | stuck => exact h
end
end Pi
namespace Pi
open PySem PySem.Spec PyProof.Rows L2
section
variable {G : Gb} {S : Se} {W : WX} {N : List Str} {sc scope : Scope} {k : Nat} {X : Cx} {F F' F1 F2 F3 : List SF} {f f1 f2 : VF} {c : Fr} {en : En} {own own0 own1 : Own} {σ : L2.St} {H H' H0 H1 : Hp} {Fo : List SF}
end
end Pi
namespace Pi
open PySem PySem.Spec PyProof.Rows L2
section
variable {G : Gb} {S : Se} {W : WX} {N : List Str} {sc scope : Scope} {k : Nat} {X : Cx} {F F1 F2 F3 F4 Fh : List SF} {Fo : List SF} {f f1 f2 : VF} {c : Fr} {en : En} {own own0 own1 : Own} {σ : L2.St} {H H' H0 H1 : Hp} {Da : Addr} {vs : List Nat}
end
end Pi
namespace Pi
open PySem PySem.Spec PyProof.Rows L2
section
variable {G : Gb} {S : Se} {W : WX} {N : List Str} {sc scope : Scope} {k : Nat} {X : Cx} {F F' F1 F2 F3 F4 Fe Fo : List SF} {f f1 f2 fv : VF} {c : Fr} {en : En} {own own0 own1 : Own} {σ : L2.St} {H H' H0 H1 : Hp} {fl : SF} {sh fs : Sh} {b : Bool}
end
end Pi
noncomputable section
namespace Pi
open PySem PySem.Spec PyProof.Rows L2
section
variable {G : Gb} {S : Se} {W : WX} {N : List Str} {sc scope : Scope} {k : Nat} {X : Cx} {F F' F1 F2 F3 F4 Fe Fo : List SF} {f f1 f2 fv : VF} {c : Fr} {en en' : En} {own own0 own1 own2 : Own} {σ σ' : L2.St} {H H' H0 H1 : Hp} {fl : SF} {sh fs : Sh} {b : Bool}
end
end Pi
end
namespace Pi
open PySem PySem.Spec PyProof.Rows L2
section
variable {G : Gb} {S : Se} {W : WX} {N : List Str} {sc scope : Scope} {k : Nat} {X : Cx} {F F' F1 F2 F3 F4 : List SF} {f f1 f2 : VF} {c : Fr} {en : En} {own own0 own1 : Own} {σ : L2.St} {H H' H0 H1 : Hp} {vs : List Nat}
end
end Pi
noncomputable section
namespace Pi
open PySem PySem.Spec PyProof.Rows L2
section
variable {G : Gb} {S : Se} {W : WX} {N : List Str} {sc scope : Scope} {k : Nat} {X : Cx} {F F' F1 F2 F3 F4 Fn Fe Fo : List SF} {f f1 f2 : VF} {c : Fr} {en : En} {own own0 own1 : Own} {σ : L2.St} {H H' H0 H1 : Hp} {vs : List Nat} {b : Bool}
end
end Pi
end
namespace Pi
open PySem PySem.Spec PyProof.Rows L2
section
variable {G : Gb} {S : Se} {W : WX} {N : List Str} {sc scope : Scope} {k : Nat} {X : Cx} {F F1 F2 F3 F4 Fh : List SF} {Fo : List SF} {f f1 f2 : VF} {c : Fr} {en : En} {own own0 : Own} {σ : L2.St} {H H' H0 H1 : Hp}
end
end Pi
noncomputable section
namespace Pi
open PySem PySem.Spec PyProof.Rows L2
section
variable {G : Gb} {S : Se} {W : WX} {N : List Str} {sc scope : Scope} {k : Nat} {X : Cx} {F F' F1 F2 F3 F4 Fe Fo Fh : List SF} {f f1 f2 fv : VF} {c : Fr} {en en' : En} {own own0 own1 own2 : Own} {σ σ' : L2.St} {H H' H0 H1 : Hp} {fl : SF} {sh fs : Sh} {b : Bool}
end
end Pi
end
namespace Pi
open PySem PySem.Spec PyProof.Rows L2
section
open PySem.SeqAt AutoSeq1 MeetsSeq MeetsSeq2 MeetsSeq3 SeqRoads2
variable {prog : Program} {w : World}
end
section
variable {N : List Str} {sc : Scope} {X : Cx} {G : Gb}
end
end Pi
namespace Pi
open PySem PySem.Spec PyProof.Rows L2
section
variable {N : List Str} {sc : Scope} {X : Cx} {G : Gb} {A A' : Addr → Prop} {H : Hp}
end
end Pi
noncomputable section
namespace Pi
open PySem PySem.Spec PyProof.Rows L2
section
variable {G : Gb} {S : Se} {W : WX} {N : List Str} {sc scope : Scope} {k : Nat} {X : Cx} {F F1 F2 F3 Fe Fo : List SF} {f f1 f2 : VF} {c : Fr} {en : En} {own own0 own1 : Own} {σ : L2.St} {H H' H0 H1 : Hp} {A A' : Addr → Prop} {o : Option Sh}
end
end Pi
end
noncomputable section
namespace Pi
open PySem PySem.Spec PyProof.Rows L2
section
variable {G : Gb} {W : WX} {N : List Str} {sc : Scope} {k : Nat} {X : Cx} {F F' F1 F2 : List SF} {f f1 f2 : VF} {c : Fr} {en : En} {own own1 own2 : Own} {σ : L2.St} {H H' H1 H2 : Hp} {A A' : Addr → Prop} {p : Addr} {o o2 : HO}
theorem Up.ex {K : PySem.W.Frag} (s : Same H H') (m : ∀ a, A a → H a ≠ none → A' a) : Up K A A' H H' :=
  ⟨fun a _ h r => ⟨m a h (by rw [r]; simp), s _ _ r⟩, fun a _ h r => ⟨m a h (by rcases r with r | ⟨q, r⟩ <;> (rw [r]; simp)), rdS r s⟩, fun a _ _ _ h r => ⟨m a h (by rw [r]; simp), s _ _ r⟩, fun _ _ r => rdS r s, fun _ _ r => sfS r s⟩
end
end Pi
end
noncomputable section
namespace Pi
open PySem PySem.Spec PyProof.Rows L2
def flatS : D → Bool
  | .lst l => flat.flatL l
  | d => flat d
def eFs (ev : EvE) : EvE := fun en => bnd (ev en) fun d => if flatS d = true then .ok d else .error .stuck
section
variable {G : Gb} {S : Se} {W : WX} {N : List Str} {sc scope : Scope} {k : Nat} {X : Cx} {F F' F1 F2 F3 F4 Fe Fo : List SF} {f f1 f2 fv : VF} {c : Fr} {en : En} {own own0 own1 : Own} {σ : L2.St} {H H' H0 H1 : Hp} {fl : SF} {sh fs : Sh} {b : Bool}
theorem retS_of {d : D} {v : V} (r : R G (Av c (ow own) true) H d v) (hf : flatS d = true) : RRet G true c.A0 c.H0 H d v := by
  cases d with
  | non => exact ⟨[], ⟨rfl, r⟩, fun a h => by cases h⟩
  | bl _ => exact ⟨[], ⟨rfl, r⟩, fun a h => by cases h⟩
  | int _ => exact ⟨[], ⟨rfl, r⟩, fun a h => by cases h⟩
  | str _ => exact ⟨[], ⟨rfl, r⟩, fun a h => by cases h⟩
  | tup l => exact ⟨[], ⟨rfl, R.flat (.tup l) hf r⟩, fun a h => by cases h⟩
  | lst l =>
    obtain ⟨a, xs, e, hA, h1, h2⟩ := r
    exact ⟨[a], ⟨a, xs, e, rfl, h1, RL.flat l hf h2⟩, fun b hb => by rw [List.mem_singleton.mp hb]; exact hA.2.1 rfl⟩
  | dct _ _ => cases hf
  | obj _ _ => cases hf
  | exc _ => cases hf
  | scr _ => cases hf
theorem ds_retS {e : Expr} {pos : Pos} {ev : EvE} (he : PE X e (TEv G S.W F F1 (.sh true) ev)) (hm : S.md = true := by rfl) : PS X (.Return (some e) pos) (TSv G S F Fo (sRet (eFs ev))) := by
  refine ps_imp (ps_ret he) ?_
  rintro D σ H ⟨c, en, own, ok, m⟩
  refine ⟨c, en, own, ok, m.bnd.bnd.e.imp fun d _ q v H1 own1 ok1 s1 b1 r1 => ?_⟩
  split at q
  · rename_i hf
    exact q v H1 ok1.same (fun a o h => (ok1.lk a o h).1) (by rw [hm]; exact retS_of r1 hf)
  · exact q.elim
def fldFl : List D → Sh → Bool
  | [], _ => true
  | d :: l, fs => (match fs.hd with
    | .s => flat d
    | .o .s => flatS d
    | _ => false) && fldFl l fs.tl
theorem RSP.toR {A A' : Addr → Prop} : ∀ (l : List D) {fs : Sh} {xs : List V} {os : List Addr}, RSP G A H l fs xs os → fldFl l fs = true → (∀ a, a ∈ os → A' a) → RL G A' H l xs
  | [], fs, xs, os, h, _, _ => by unfold RSP at h; exact h.1
  | d :: l, fs, xs, os, h, hf, ho => by
    unfold RSP at h
    obtain ⟨x, r, o1, o2, e1, e2, h1, h2⟩ := h
    have hf' : (match fs.hd with
      | .s => flat d
      | .o .s => flatS d
      | _ => false) = true ∧ fldFl l fs.tl = true := by
      have : ((match fs.hd with
      | .s => flat d
      | .o .s => flatS d
      | _ => false) && fldFl l fs.tl) = true := hf
      simpa using this
    refine ⟨x, r, e1, ?_, RSP.toR l h2 hf'.2 fun a z => ho a (by rw [e2]; simp [z])⟩
    obtain ⟨hd, _⟩ := hf'
    revert hd h1
    generalize fs.hd = s
    intro h1 hd
    split at hd
    · exact R.flat d hd (RS_s.mp h1).2
    · cases d with
      | lst m =>
        obtain ⟨a, ys, q1, q2, q3, q4⟩ := RS_ol.mp h1
        exact ⟨a, ys, q1, ho a (by rw [e2, q2]; simp), q3, RL.flat m hd q4⟩
      | tup m => exact R.flat (A := fun a => A a ∨ a ∈ o1) (.tup m) hd (RS.r _ h1 (fun a z => .inl z) fun a z => .inr z)
      | non => unfold RS at h1; exact h1.2
      | bl _ => unfold RS at h1; exact h1.2
      | int _ => unfold RS at h1; exact h1.2
      | str _ => unfold RS at h1; exact h1.2
      | dct _ _ => cases hd
      | obj _ _ => cases hd
      | exc _ => cases hd
      | scr _ => cases hd
    · cases hd
def eMkN (c : Nat) (fs : Sh) (fn : List D → Rs D) (ea : En → Rs (List D)) : EvE := fun en => bnd (ea en) fun ds => bnd (fn (.obj c [] :: ds)) fun r => match r with
  | .tup [.non, .obj c' l] => if c' = c ∧ fldFl l fs = true then .ok (.obj c' l) else .error .stuck
  | _ => .error .stuck
theorem de_mkN (g : Gd G N sc k W X) {j c0 : Nat} {x : Str} {ks : List Str} {n : Nat} {fn : List D → Rs D} {vfs : List VF} {ea : En → Rs (List D)} {e : Expr} {es : List Expr} {p cpos : Pos} (C : Ccl G c0 x ks) (M : MakX G j c0 (.m fs) n fn) (ha : PA X (e :: es) (TAv G W F F1 vfs ea))
    (hj : j + 1 ≤ k := by decide) (hn : vfs.length = n := by rfl) (ho : nbL vfs = true := by rfl) (hx : glbB sc x = true := by rfl) (hnm : nameB x = true := by rfl)
    (he : starEach (e :: es) X.env = (false, eval e X.env) :: starEach es X.env := by rfl) (hpl : (backTo cpos (starEach es X.env)).any (·.1) = false := by rfl) : PE X (.Call (.Name x p) (e :: es) [] cpos) (TEv G W F F1 (.uq true) (eMkN c0 fs fn ea)) := by
  obtain ⟨f, fd, ps, hM, hF, hb⟩ := M.ex
  have hgl := C.gl
  have pe := pe_makeSd (x := x) (p := p) (pos := cpos) (e := e) (es := es) (by rw [g.K]; exact hM) (g.fnOk hF) (g.room.mono hj) (glbB_gl hx g.sc) (by rw [g.mg]; exact hgl) (by rw [g.K]; exact hb) (fun σ => passAt g.tk σ) ha (nameB_d hnm).1 he hpl
  refine pe_imp pe ?_
  rintro σ H Q ⟨c, en, own, ok, m⟩
  refine ⟨c, en, own, ok, m.bnd.imp fun ds _ mx vs H1 own1 ok1 s1 b1 r1 => fun x0 dx hx0 hdx hne => ?_⟩
  have hsame : Same H1 (upd (upd H1 dx (.own x0)) x0 (.ins (G.ca c0) dx [])) := (same_new hdx).trans (same_new (by rw [upd_ne (Ne.symm hne)]; exact hx0))
  have at0 : upd (upd H1 dx (.own x0)) x0 (.ins (G.ca c0) dx []) x0 = some (.ins (G.ca c0) dx []) := upd_same
  refine ⟨by rw [List.length_cons, r1.len.2, hn], [.obj c0 []], ds, [.ref x0], vs, fun j => if j = 0 then [x0] else [], fun a => Av c (ow own1) false a ∧ a ≠ x0, rfl, ⟨rfl, rfl, fun j sh' d' v' h1 h2 h3 => ?_⟩, ⟨fun j1 j2 a q1 q2 => ?_, fun j hj => if_neg (by simp at hj; omega)⟩, fun a h z => ?_, ?_, ?_⟩
  · cases j with
    | zero =>
      simp at h1 h2 h3
      subst h1 h2 h3
      refine ⟨RS_om.mpr ⟨x0, dx, [], [], rfl, rfl, at0, rfl, by unfold RSP; exact ⟨rfl, rfl⟩⟩, List.nodup_cons.mpr ⟨List.not_mem_nil, List.nodup_nil⟩⟩
    | succ j => simp at h1
  · dsimp only at q1 q2
    split at q1
    · split at q2
      · rename_i a1 a2; rw [a1, a2]
      · cases q2
    · cases q1
  · obtain ⟨j, hj⟩ := z
    dsimp only at hj
    split at hj
    · exact h.2 (List.mem_singleton.mp hj)
    · cases hj
  · have ne : ∀ {a : Addr} {o : HO}, H1 a = some o → a ≠ x0 := fun {a o} e z => by rw [z, hx0] at e; cases e
    have up : Up G.K (Av c (ow own1) false) (fun a => Av c (ow own1) false a ∧ a ≠ x0) H1 (upd (upd H1 dx (.own x0)) x0 (.ins (G.ca c0) dx [])) :=
      ⟨fun a xs m e => ⟨⟨m, ne e⟩, hsame _ _ e⟩, fun a xs m e => ⟨⟨m, e.elim ne fun ⟨o, e⟩ => ne e⟩, e.imp (hsame _ _) fun ⟨o, e⟩ => ⟨o, hsame _ _ e⟩⟩, fun a C dx fs m e => ⟨⟨m, ne e⟩, hsame _ _ e⟩, fun a xs e => e.imp (hsame _ _) fun ⟨o, e⟩ => ⟨o, hsame _ _ e⟩, fun a xs e => e.imp (fun ⟨o, e⟩ => ⟨o, hsame _ _ e⟩) id⟩
    exact RL.up up _ ((r1.rl ho).an fun a z => z.undp)
  · have mx' := mx.bnd
    rw [List.singleton_append]
    cases e : fn (.obj c0 [] :: ds) with
    | error er =>
      rw [e] at mx'
      cases er with
      | stuck => exact mx'.elim
      | raise z => exact fun H2 s2 => mx' H2 fun b o nb e => s2 _ _ (hsame _ _ (ok1.same b o nb e))
    | ok r =>
      rw [e] at mx'
      change Mt G W c σ (match r with
        | .tup [.non, .obj c' l] => if c' = c0 ∧ fldFl l fs = true then (.ok (.obj c' l) : Rs D) else .error .stuck
        | _ => .error .stuck) _ at mx'
      split at mx'
      · rename_i c' l
        split at mx'
        · rename_i hc
          obtain ⟨rfl, hff⟩ := hc
          intro v H2 os' kp al apt fr rs rr
          obtain ⟨_, _, rs⟩ := rs
          obtain ⟨n1, n2⟩ := rs 0 (.m fs) (.obj c' l) (.ref x0) rfl rfl rfl
          refine ⟨rr, ?_⟩
          have in0 : ∀ a, inO (fun j => if j = 0 then [x0] else []) a → a = x0 := fun a ⟨j, hj⟩ => by
            dsimp only at hj
            split at hj
            · exact List.mem_singleton.mp hj
            · cases hj
          have s2 : Same H1 H2 := fun b o e => kp b o (fun z => by rw [in0 b z, hx0] at e; cases e) (hsame b o e)
          have fresh : ∀ a, a ∈ os' 0 → H1 a = none ∧ H2 a ≠ none := fun a ha => by
            obtain ⟨q1, q2⟩ := fr a ⟨0, ha⟩
            refine ⟨?_, q1⟩
            rcases q2 with z | z
            · rw [in0 a z]; exact hx0
            · cases q : H1 a with
              | none => rfl
              | some o => rw [hsame a o q] at z; cases z
          obtain ⟨a, dx', flds, r, ea, eo, e1, e2, e3⟩ := RS_om.mp n1
          have ax : a = x0 := by injection ea with ea; exact ea.symm
          subst ax
          have nd : a ∉ r := by rw [eo] at n2; exact (List.nodup_cons.mp n2).1
          have okr := ok1.resL s2 (os := [a]) (fun b hb => by rw [List.mem_singleton.mp hb]; exact (fresh a (by rw [eo]; simp)).1) (fun b hb => by rw [List.mem_singleton.mp hb]; exact (fresh a (by rw [eo]; simp)).2)
          refine mx' (.ref a) H2 _ okr (s1.trans s2) (sub_trans b1 s1 (sub_resL fun b hb => by rw [List.mem_singleton.mp hb]; exact (fresh a (by rw [eo]; simp)).1)) ⟨[a], ⟨a, dx', flds, rfl, rfl, e1, e2, RSP.toR l e3 hff fun b hb => ?_⟩, fun b hb => .inr hb⟩
          have fb := fresh b (by rw [eo]; exact List.mem_cons_of_mem _ hb)
          refine ⟨fun z => ?_, fun _ => ok1.free fb.1, .inl (ok1.free fb.1)⟩
          rcases z with z | z | z
          · exact ok1.trk (.inl z) fb.1
          · exact ok1.trk (.inr z) fb.1
          · rw [List.mem_singleton.mp z] at hb
            exact nd hb
        · exact mx'.elim
      · exact mx'.elim
end
end Pi
end
noncomputable section
namespace Lk11
open PySem PySem.Spec PyProof.Rows L2 Pi
abbrev g_MOST_ROADS : D := .int 40
structure Fx (G : Gb) : Prop where
  g_MOST_ROADS : Glo G "MOST_ROADS" g_MOST_ROADS
  b_abs : G.mg "abs" = none
  b_bool : G.mg "bool" = none
  b_enumerate : G.mg "enumerate" = none
  b_int : G.mg "int" = none
  b_isinstance : G.mg "isinstance" = none
  b_len : G.mg "len" = none
  b_list : G.mg "list" = none
  b_min : G.mg "min" = none
  b_range : G.mg "range" = none
  b_tuple : G.mg "tuple" = none
  x_NoTree : Xcl G "NoTree" 0
  x_NoPlace : Xcl G "NoPlace" 1
  k_Tree : Ccl G 0 "Tree" ["kept"]
  xk : Xk G xs cs
def s__law_cell_at : EvS := (sSeq (sIf (tV (eB2 oLt (eVar 1) (eBi oLen (aCons (eVar 0) aNil))))
 (sRet (eFl (eB2 oIx (eVar 0) (eVar 1))))
 sNil)
  (sRet (eB2 oAdd (eFl (eB2 oMul (eC (.int 2)) (eVar 1))) (eC (.int 1)))))
def f__law_cell_at : List D → Rs D := runF 0 s__law_cell_at
abbrev n__law_cell_at : List Str := ["_law_script", "_law_k"]
theorem d__law_cell_at {G : Gb} (h : Fx G) (X : Cx) (W : WX) (g : Gs G n__law_cell_at (defScope t__law_cell_at) 0 W X) : PSs X (defBody t__law_cell_at) (TSv G ⟨true, W, []⟩ (F0 2 0) [] s__law_cell_at) :=
  (ds_cons (ds_if (F := [.s false, .s false]) (F1 := [.s false, .s false]) (Fo := [.s false, .s false]) (dt_cmp op_lt (ops_CI fun i j => decide (i < j)) (de_var g.g.toGv 1 (fl := .s false)) (de_len g.g.toGv h.b_len (da_cons (de_var g.g.toGv 0 (fl := .s false)) da_nil)))
 (ds_one (ds_ret (de_fl (de_ix g.g.toGv (de_var g.g.toGv 0 (fl := .s false)) (de_var g.g.toGv 1 (fl := .s false))))))
 ds_nil)
  (ds_one (ds_ret (de_add (de_fl (de_mul (de_int 2) (de_var g.g.toGv 1 (fl := .s false)))) (de_int 1)))))
def s__law_mixed : EvS := (sRet (eB2 oAdd (eB2 oMul (eB2 oAdd (eB2 oMod (eVar 0) (eB2 oPow (eC (.int 10)) (eC (.int 60)))) (eFl (eB2 oMul (eVar 1) (eVar 1)))) (eC (.int 6364136223846793013))) (eB2 oMul (eFl (eB2 oAdd (eVar 1) (eC (.int 1)))) (eC (.int 1442695040888963407)))))
def f__law_mixed : List D → Rs D := runF 0 s__law_mixed
abbrev n__law_mixed : List Str := ["_law_cell", "_law_k"]
theorem d__law_mixed {G : Gb} (h : Fx G) (X : Cx) (W : WX) (g : Gs G n__law_mixed (defScope t__law_mixed) 0 W X) : PSs X (defBody t__law_mixed) (TSv G ⟨true, W, []⟩ (F0 2 0) [] s__law_mixed) :=
  (ds_one (ds_ret (de_add (de_mul (de_add (de_mod (de_var g.g.toGv 0 (fl := .s false)) (de_pow (de_int 10) (de_int 60))) (de_fl (de_mul (de_var g.g.toGv 1 (fl := .s false)) (de_var g.g.toGv 1 (fl := .s false))))) (de_int 6364136223846793013)) (de_mul (de_fl (de_add (de_var g.g.toGv 1 (fl := .s false)) (de_int 1))) (de_int 1442695040888963407)))))
def s__law_numbers : EvS := (sSeq (sAs 3 (eLst aNil))
  (sSeq (sAs 4 (eFl (eVar 0)))
  (sSeq (sFor (iRn (aCons (eVar 1) aNil)) (set1 5)
 (sIf (tV (eB2 oLt (eVar 0) (eB2 oPow (eC (.int 10)) (eC (.int 18)))))
 (sApp 3 (eB2 oMod (eB2 oDiv (eCall f__law_mixed (aCons (eVar 0) (aCons (eVar 5) aNil))) (eC (.int 97))) (eVar 2)))
 (sSeq (sApp 3 (eB2 oMod (eVar 4) (eVar 2)))
  (sAs 4 (eB2 oDiv (eVar 4) (eVar 2))))))
  (sRet (eVar 3)))))
def f__law_numbers : List D → Rs D := runF 3 s__law_numbers
abbrev n__law_numbers : List Str := ["_law_cell", "_law_many", "_law_most", "_law_made", "_law_rest", "_law_k"]
theorem d__law_numbers {G : Gb} (h : Fx G) (c__law_mixed : Cal G 1 "_law_mixed" true 2 f__law_mixed) (X : Cx) (W : WX) (g : Gs G n__law_numbers (defScope t__law_numbers) 1 W X) : PSs X (defBody t__law_numbers) (TSv G ⟨true, W, []⟩ (F0 3 3) [] s__law_numbers) :=
  (ds_cons (ds_as (F1 := [.s false, .s false, .s false, .n, .n, .n]) (f := (.uq true)) g.g.toGv g.fn 3 (de_lst da_nil))
  (ds_cons (ds_as (F1 := [.s false, .s false, .s false, .o true, .n, .n]) (f := (.uq true)) g.g.toGv g.fn 4 (de_fl (de_var g.g.toGv 0 (fl := .s false))))
  (ds_cons (ds_for (F := [.s false, .s false, .s false, .o true, .o true, .n]) (F1 := [.s false, .s false, .s false, .o true, .o true, .n]) (F2 := [.s false, .s false, .s false, .o true, .o true, .s true]) (Fh := [.s false, .s false, .s false, .o true, .o true, .n]) g (di_range1 g.g h.b_range (da_cons (de_var g.g.toGv 1 (fl := .s false)) da_nil)) (tg_name g.g.toGv g.fn 5)
 (dss_wk (F := [.s false, .s false, .s false, .o true, .o true, .s true]) (F1 := [.s false, .s false, .s false, .o true, .o true, .s true]) (F2 := [.s false, .s false, .s false, .o true, .o true, .n]) (ds_one (ds_if (F := [.s false, .s false, .s false, .o true, .o true, .s true]) (F1 := [.s false, .s false, .s false, .o true, .o true, .s true]) (Fo := [.s false, .s false, .s false, .o true, .o true, .s true]) (dt_cmp op_lt (ops_CI fun i j => decide (i < j)) (de_var g.g.toGv 0 (fl := .s false)) (de_pow (de_int 10) (de_int 18)))
 (ds_one (ds_app (F1 := [.s false, .s false, .s false, .o true, .o true, .s true]) (f := (.uq true)) g.g.toGv 3 (dp0 := true) (dp := true) (de_mod (de_div (de_call g.g c__law_mixed (da_cons (de_var g.g.toGv 0 (fl := .s false)) (da_cons (de_var g.g.toGv 5 (fl := .s true)) da_nil))) (de_int 97)) (de_var g.g.toGv 2 (fl := .s false)))))
 (ds_cons (ds_app (F1 := [.s false, .s false, .s false, .o true, .o true, .s true]) (f := (.uq true)) g.g.toGv 3 (dp0 := true) (dp := true) (de_mod (de_var g.g.toGv 4 (fl := .o true)) (de_var g.g.toGv 2 (fl := .s false))))
  (ds_one (ds_as (F1 := [.s false, .s false, .s false, .o true, .o true, .s true]) (f := (.uq true)) g.g.toGv g.fn 4 (de_div (de_var g.g.toGv 4 (fl := .o true)) (de_var g.g.toGv 2 (fl := .s false))))))))))
  (ds_one (ds_ret (de_tk g.g.toGv 3 (fl := .o true)))))))
def s__law_low : EvS := (sSeq (sAs 2 (eBi oAbs (aCons (eVar 0) aNil)))
  (sSeq (sAs 3 (eFl (eVar 1)))
  (sSeq (sWh (tV (eB2 oGt (eVar 3) (eC (.int 0))))
 (sPar 2 3 (eFl (eVar 3)) (eB2 oMod (eVar 2) (eVar 3))))
  (sRet (eTup (aCons (eB2 oDiv (eVar 0) (eVar 2)) (aCons (eB2 oDiv (eVar 1) (eVar 2)) aNil)))))))
def f__law_low : List D → Rs D := runF 2 s__law_low
abbrev n__law_low : List Str := ["_law_top", "_law_bottom", "_law_one", "_law_other"]
theorem d__law_low {G : Gb} (h : Fx G) (X : Cx) (W : WX) (g : Gs G n__law_low (defScope t__law_low) 0 W X) : PSs X (defBody t__law_low) (TSv G ⟨true, W, []⟩ (F0 2 2) [] s__law_low) :=
  (ds_cons (ds_as (F1 := [.s false, .s false, .n, .n]) (f := (.uq true)) g.g.toGv g.fn 2 (de_abs g.g.toGv h.b_abs (da_cons (de_var g.g.toGv 0 (fl := .s false)) da_nil)))
  (ds_cons (ds_as (F1 := [.s false, .s false, .o true, .n]) (f := (.uq true)) g.g.toGv g.fn 3 (de_fl (de_var g.g.toGv 1 (fl := .s false))))
  (ds_cons (ds_pre (F1 := [.s false, .s false, .s true, .s true]) (ds_while (F := [.s false, .s false, .s true, .s true]) g.g (dt_cmp op_gt (ops_CI fun i j => decide (j < i)) (de_var g.g.toGv 3 (fl := .s true)) (de_int 0))
 (ds_one (ds_par (F1 := [.s false, .s false, .s true, .s true]) (F2 := [.s false, .s false, .s true, .s true]) (f1 := (.uq true)) (f2 := (.uq true)) g 2 3 (de_fl (de_var g.g.toGv 3 (fl := .s true))) (de_mod (de_var g.g.toGv 2 (fl := .s true)) (de_var g.g.toGv 3 (fl := .s true)))))))
  (ds_one (ds_ret (de_tup (da_cons (de_div (de_var g.g.toGv 0 (fl := .s false)) (de_var g.g.toGv 2 (fl := .s true))) (da_cons (de_div (de_var g.g.toGv 1 (fl := .s false)) (de_var g.g.toGv 2 (fl := .s true))) da_nil))))))))
def s__law_price_by : EvS := (sSeq (sIf (tV (eVar 1))
 (sRet (eCall f__law_low (aCons (eB2 oMod (eVar 0) (eB2 oPow (eC (.int 10)) (eC (.int 30)))) (aCons (eB2 oAdd (eC (.int 1)) (eB2 oMod (eB2 oDiv (eVar 0) (eB2 oPow (eC (.int 10)) (eC (.int 30)))) (eB2 oSub (eB2 oPow (eC (.int 10)) (eC (.int 30))) (eC (.int 1))))) aNil))))
 sNil)
  (sRet (eCall f__law_low (aCons (eB2 oMod (eVar 0) (eC (.int 13))) (aCons (eB2 oAdd (eC (.int 1)) (eB2 oMod (eB2 oDiv (eVar 0) (eC (.int 13))) (eC (.int 6)))) aNil)))))
def f__law_price_by : List D → Rs D := runF 0 s__law_price_by
abbrev n__law_price_by : List Str := ["_law_number", "_law_wide"]
theorem d__law_price_by {G : Gb} (h : Fx G) (c__law_low : Cal G 1 "_law_low" true 2 f__law_low) (X : Cx) (W : WX) (g : Gs G n__law_price_by (defScope t__law_price_by) 1 W X) : PSs X (defBody t__law_price_by) (TSv G ⟨true, W, []⟩ (F0 2 0) [] s__law_price_by) :=
  (ds_cons (ds_if (F := [.s false, .s false]) (F1 := [.s false, .s false]) (Fo := [.s false, .s false]) (dt_val (de_var g.g.toGv 1 (fl := .s false)))
 (ds_one (ds_ret (de_call g.g c__law_low (da_cons (de_mod (de_var g.g.toGv 0 (fl := .s false)) (de_pow (de_int 10) (de_int 30))) (da_cons (de_add (de_int 1) (de_mod (de_div (de_var g.g.toGv 0 (fl := .s false)) (de_pow (de_int 10) (de_int 30))) (de_sub (de_pow (de_int 10) (de_int 30)) (de_int 1)))) da_nil)))))
 ds_nil)
  (ds_one (ds_ret (de_call g.g c__law_low (da_cons (de_mod (de_var g.g.toGv 0 (fl := .s false)) (de_int 13)) (da_cons (de_add (de_int 1) (de_mod (de_div (de_var g.g.toGv 0 (fl := .s false)) (de_int 13)) (de_int 6))) da_nil))))))
def s__law_roads_by : EvS := (sSeq (sAs 2 (eCall f__law_cell_at (aCons (eVar 0) (aCons (eC (.int 0)) aNil))))
  (sSeq (sAs 3 (eB2 oMod (eVar 2) (eFl (eB2 oAdd (eVar 1) (eC (.int 1))))))
  (sSeq (sAs 4 (eB2 oEq (eB2 oMod (eB2 oDiv (eVar 2) (eC (.int 50))) (eC (.int 6))) (eC (.int 1))))
  (sSeq (sIf (tV (eVar 4))
 (sAs 3 (eB2 oMod (eVar 3) (eC (.int 5))))
 (sIf (tV (eB2 oEq (eB2 oMod (eB2 oDiv (eVar 2) (eC (.int 50))) (eC (.int 6))) (eC (.int 2))))
 (sAs 3 (eB2 oMod (eB2 oDiv (eVar 2) (eC (.int 300))) (eC (.int 21))))
 sNil))
  (sSeq (sAs 5 (eRgL2 (eC (.int 1)) (eB2 oAdd (eVar 3) (eC (.int 1)))))
  (sSeq (sFor (iEn (aCons (eCall f__law_numbers (aCons (eCall f__law_cell_at (aCons (eVar 0) (aCons (eC (.int 1)) aNil))) (aCons (eVar 3) (aCons (eC (.int 41)) aNil)))) aNil)) (setT [6, 7])
 (sSeq (sAs 8 (eB2 oMod (eVar 7) (eB2 oAdd (eVar 6) (eC (.int 1)))))
  (sSw 5 (eTup (aCons (eB2 oIx (eVar 5) (eVar 8)) (aCons (eB2 oIx (eVar 5) (eVar 6)) aNil))) (eVar 6) (eVar 8))))
  (sSeq (sAs 9 (eLc [6] (iRn (aCons (eVar 3) aNil)) (set1 6) (fun _ => .ok true) (eTup (aCons (eC (.int 0)) (aCons (eTup (aCons (eC (.int 0)) (aCons (eC (.int 1)) aNil))) aNil)))))
  (sSeq (sAs 10 (eCall f__law_numbers (aCons (eCall f__law_cell_at (aCons (eVar 0) (aCons (eC (.int 3)) aNil))) (aCons (eVar 3) (aCons (eB2 oIx (eLst (aCons (eC (.int 78)) (aCons (eB2 oPow (eC (.int 10)) (eC (.int 60))) aNil))) (eBi oInt (aCons (eVar 4) aNil))) aNil)))))
  (sSeq (sFor (iEn (aCons (eCall f__law_numbers (aCons (eCall f__law_cell_at (aCons (eVar 0) (aCons (eC (.int 2)) aNil))) (aCons (eVar 3) (aCons (eC (.int 1681)) aNil)))) aNil)) (setT [6, 7])
 (sSeq (sAs 11 (eFl (eB2 oIx (eB2 oAdd (eLst (aCons (eC (.int 0)) aNil)) (eVar 5)) (eB2 oSub (eVar 6) (eB2 oMod (eVar 7) (eBi oMin (aCons (eB2 oAdd (eVar 6) (eC (.int 1))) (aCons (eB2 oAdd (eC (.int 1)) (eB2 oMod (eB2 oDiv (eVar 7) (eC (.int 41))) (eC (.int 41)))) aNil))))))))
  (sSub 9 (eB2 oSub (eB2 oIx (eVar 5) (eVar 6)) (eC (.int 1))) (eTup (aCons (eVar 11) (aCons (eCall f__law_price_by (aCons (eB2 oIx (eVar 10) (eVar 6)) (aCons (eVar 4) aNil))) aNil))))))
  (sRet (eVar 9)))))))))))
def f__law_roads_by : List D → Rs D := runF 10 s__law_roads_by
abbrev n__law_roads_by : List Str := ["_law_script", "_law_most", "_law_head", "_law_many", "_law_wide", "_law_turned", "_law_k", "_law_number", "_law_other", "_law_roads", "_law_prices", "_law_to"]
theorem d__law_roads_by {G : Gb} (h : Fx G) (c__law_cell_at : Cal G 1 "_law_cell_at" true 2 f__law_cell_at) (c__law_numbers : Cal G 2 "_law_numbers" true 3 f__law_numbers) (c__law_price_by : Cal G 2 "_law_price_by" true 2 f__law_price_by) (X : Cx) (W : WX) (g : Gs G n__law_roads_by (defScope t__law_roads_by) 2 W X) : PSs X (defBody t__law_roads_by) (TSv G ⟨true, W, []⟩ (F0 2 10) [] s__law_roads_by) :=
  (ds_cons (ds_as (F1 := [.s false, .s false, .n, .n, .n, .n, .n, .n, .n, .n, .n, .n]) (f := (.uq true)) g.g.toGv g.fn 2 (de_call g.g c__law_cell_at (da_cons (de_var g.g.toGv 0 (fl := .s false)) (da_cons (de_int 0) da_nil))))
  (ds_cons (ds_as (F1 := [.s false, .s false, .o true, .n, .n, .n, .n, .n, .n, .n, .n, .n]) (f := (.uq true)) g.g.toGv g.fn 3 (de_mod (de_var g.g.toGv 2 (fl := .o true)) (de_fl (de_add (de_var g.g.toGv 1 (fl := .s false)) (de_int 1)))))
  (ds_cons (ds_as (F1 := [.s false, .s false, .o true, .o true, .n, .n, .n, .n, .n, .n, .n, .n]) (f := (.uq true)) g.g.toGv g.fn 4 (de_cmp (opr_eqG g.g.toGv) ops_eq (de_mod (de_div (de_var g.g.toGv 2 (fl := .o true)) (de_int 50)) (de_int 6)) (de_int 1)))
  (ds_cons (ds_if (F := [.s false, .s false, .o true, .o true, .o true, .n, .n, .n, .n, .n, .n, .n]) (F1 := [.s false, .s false, .o true, .o true, .o true, .n, .n, .n, .n, .n, .n, .n]) (Fo := [.s false, .s false, .o true, .o true, .o true, .n, .n, .n, .n, .n, .n, .n]) (dt_val (de_var g.g.toGv 4 (fl := .o true)))
 (ds_one (ds_as (F1 := [.s false, .s false, .o true, .o true, .o true, .n, .n, .n, .n, .n, .n, .n]) (f := (.uq true)) g.g.toGv g.fn 3 (de_mod (de_var g.g.toGv 3 (fl := .o true)) (de_int 5))))
 (ds_one (ds_if (F := [.s false, .s false, .o true, .o true, .o true, .n, .n, .n, .n, .n, .n, .n]) (F1 := [.s false, .s false, .o true, .o true, .o true, .n, .n, .n, .n, .n, .n, .n]) (Fo := [.s false, .s false, .o true, .o true, .o true, .n, .n, .n, .n, .n, .n, .n]) (dt_cmp (opr_eqG g.g.toGv) ops_eq (de_mod (de_div (de_var g.g.toGv 2 (fl := .o true)) (de_int 50)) (de_int 6)) (de_int 2))
 (ds_one (ds_as (F1 := [.s false, .s false, .o true, .o true, .o true, .n, .n, .n, .n, .n, .n, .n]) (f := (.uq true)) g.g.toGv g.fn 3 (de_mod (de_div (de_var g.g.toGv 2 (fl := .o true)) (de_int 300)) (de_int 21))))
 ds_nil)))
  (ds_cons (ds_as (F1 := [.s false, .s false, .o true, .o true, .o true, .n, .n, .n, .n, .n, .n, .n]) (f := (.uq true)) g.g.toGv g.fn 5 (de_listR2 g.g h.b_list h.b_range (de_int 1) (de_add (de_var g.g.toGv 3 (fl := .o true)) (de_int 1))))
  (ds_cons (ds_for (F := [.s false, .s false, .o true, .o true, .o true, .o true, .n, .n, .n, .n, .n, .n]) (F1 := [.s false, .s false, .o true, .o true, .o true, .o true, .n, .n, .n, .n, .n, .n]) (F2 := [.s false, .s false, .o true, .o true, .o true, .o true, .s true, .s true, .n, .n, .n, .n]) (Fh := [.s false, .s false, .o true, .o true, .o true, .o true, .n, .n, .n, .n, .n, .n]) g (di_enum g.g h.b_enumerate (da_cons (de_call g.g c__law_numbers (da_cons (de_call g.g c__law_cell_at (da_cons (de_var g.g.toGv 0 (fl := .s false)) (da_cons (de_int 1) da_nil))) (da_cons (de_var g.g.toGv 3 (fl := .o true)) (da_cons (de_int 41) da_nil)))) da_nil)) (tg_tup g.g g.fn [6, 7])
 (dss_wk (F := [.s false, .s false, .o true, .o true, .o true, .o true, .s true, .s true, .n, .n, .n, .n]) (F1 := [.s false, .s false, .o true, .o true, .o true, .o true, .s true, .s true, .o true, .n, .n, .n]) (F2 := [.s false, .s false, .o true, .o true, .o true, .o true, .n, .n, .n, .n, .n, .n]) (ds_cons (ds_as (F1 := [.s false, .s false, .o true, .o true, .o true, .o true, .s true, .s true, .n, .n, .n, .n]) (f := (.uq true)) g.g.toGv g.fn 8 (de_mod (de_var g.g.toGv 7 (fl := .s true)) (de_add (de_var g.g.toGv 6 (fl := .s true)) (de_int 1))))
  (ds_one (ds_swap (F1 := [.s false, .s false, .o true, .o true, .o true, .o true, .s true, .s true, .o true, .n, .n, .n]) (f := (.uq true)) (dp := true) g 5 (de_tup (da_cons (de_ix g.g.toGv (de_var g.g.toGv 5 (fl := .o true)) (de_var g.g.toGv 8 (fl := .o true))) (da_cons (de_ix g.g.toGv (de_var g.g.toGv 5 (fl := .o true)) (de_var g.g.toGv 6 (fl := .s true))) da_nil))) (de_var g.g.toGv 6 (fl := .s true)) (de_var g.g.toGv 8 (fl := .o true)))))))
  (ds_cons (ds_asLc (F1 := [.s false, .s false, .o true, .o true, .o true, .o true, .n, .n, .n, .n, .n, .n]) (F2 := [.s false, .s false, .z, .z, .z, .z, .s false, .n, .n, .n, .n, .n]) (F3 := [.s false, .s false, .z, .z, .z, .z, .s false, .n, .n, .n, .n, .n]) (F4 := [.s false, .s false, .z, .z, .z, .z, .s false, .n, .n, .n, .n, .n]) (f := (.uq true)) g 9 [("_law_k", 6)] (di_range1 g.g h.b_range (da_cons (de_var g.g.toGv 3 (fl := .o true)) da_nil)) (blk_by (by decide +kernel)) (fun X' gb fb => (tg_nameB gb.toGv 6)) (fun X' gb => dts_nil) (fun X' gb => (de_tup (da_cons (de_int 0) (da_cons (de_tup (da_cons (de_int 0) (da_cons (de_int 1) da_nil))) da_nil)))))
  (ds_cons (ds_as (F1 := [.s false, .s false, .o true, .o true, .o true, .o true, .n, .n, .n, .o true, .n, .n]) (f := (.uq true)) g.g.toGv g.fn 10 (de_call g.g c__law_numbers (da_cons (de_call g.g c__law_cell_at (da_cons (de_var g.g.toGv 0 (fl := .s false)) (da_cons (de_int 3) da_nil))) (da_cons (de_var g.g.toGv 3 (fl := .o true)) (da_cons (de_ix g.g.toGv (de_lst (da_cons (de_int 78) (da_cons (de_pow (de_int 10) (de_int 60)) da_nil))) (de_int1 g.g.toGv h.b_int (da_cons (de_var g.g.toGv 4 (fl := .o true)) da_nil))) da_nil)))))
  (ds_cons (ds_for (F := [.s false, .s false, .o true, .o true, .o true, .o true, .n, .n, .n, .o true, .o true, .n]) (F1 := [.s false, .s false, .o true, .o true, .o true, .o true, .n, .n, .n, .o true, .o true, .n]) (F2 := [.s false, .s false, .o true, .o true, .o true, .o true, .s true, .s true, .n, .o true, .o true, .n]) (Fh := [.s false, .s false, .o true, .o true, .o true, .o true, .n, .n, .n, .o true, .o true, .n]) g (di_enum g.g h.b_enumerate (da_cons (de_call g.g c__law_numbers (da_cons (de_call g.g c__law_cell_at (da_cons (de_var g.g.toGv 0 (fl := .s false)) (da_cons (de_int 2) da_nil))) (da_cons (de_var g.g.toGv 3 (fl := .o true)) (da_cons (de_int 1681) da_nil)))) da_nil)) (tg_tup g.g g.fn [6, 7])
 (dss_wk (F := [.s false, .s false, .o true, .o true, .o true, .o true, .s true, .s true, .n, .o true, .o true, .n]) (F1 := [.s false, .s false, .o true, .o true, .o true, .o true, .s true, .s true, .n, .o true, .o true, .s true]) (F2 := [.s false, .s false, .o true, .o true, .o true, .o true, .n, .n, .n, .o true, .o true, .n]) (ds_cons (ds_as (F1 := [.s false, .s false, .o true, .o true, .o true, .o true, .s true, .s true, .n, .o true, .o true, .n]) (f := (.uq true)) g.g.toGv g.fn 11 (de_fl (de_ix g.g.toGv (de_add (de_lst (da_cons (de_int 0) da_nil)) (de_var g.g.toGv 5 (fl := .o true))) (de_sub (de_var g.g.toGv 6 (fl := .s true)) (de_mod (de_var g.g.toGv 7 (fl := .s true)) (de_min g.g h.b_min (da_cons (de_add (de_var g.g.toGv 6 (fl := .s true)) (de_int 1)) (da_cons (de_add (de_int 1) (de_mod (de_div (de_var g.g.toGv 7 (fl := .s true)) (de_int 41)) (de_int 41))) da_nil))))))))
  (ds_one (ds_sub (F1 := [.s false, .s false, .o true, .o true, .o true, .o true, .s true, .s true, .n, .o true, .o true, .s true]) (F2 := [.s false, .s false, .o true, .o true, .o true, .o true, .s true, .s true, .n, .o true, .o true, .s true]) (f := (.uq true)) g.g.toGv 9 (dp0 := true) (dp := true) (de_tup (da_cons (de_mv g.g.toGv 11 (fl := .o true)) (da_cons (de_call g.g c__law_price_by (da_cons (de_ix g.g.toGv (de_var g.g.toGv 10 (fl := .o true)) (de_var g.g.toGv 6 (fl := .s true))) (da_cons (de_var g.g.toGv 4 (fl := .o true)) da_nil))) da_nil))) (de_sub (de_ix g.g.toGv (de_var g.g.toGv 5 (fl := .o true)) (de_var g.g.toGv 6 (fl := .s true))) (de_int 1)))))))
  (ds_one (ds_ret (de_tk g.g.toGv 9 (fl := .o true)))))))))))))
def s_divisor : EvS := (sSeq (sWh (tV (eB2 oNe (eVar 1) (eC (.int 0))))
 (sSeq (sAs 2 (eB2 oMod (eVar 0) (eVar 1)))
  (sSeq (sAs 0 (eFl (eVar 1)))
  (sAs 1 (eFl (eVar 2))))))
  (sRet (eBi oAbs (aCons (eVar 0) aNil))))
def f_divisor : List D → Rs D := runF 1 s_divisor
abbrev n_divisor : List Str := ["one", "other", "rest"]
theorem d_divisor {G : Gb} (h : Fx G) (X : Cx) (W : WX) (g : Gs G n_divisor (defScope t_divisor) 0 W X) : PSs X (defBody t_divisor) (TSv G ⟨true, W, []⟩ (F0 2 1) [] s_divisor) :=
  (ds_cons (ds_while (F := [.s false, .s false, .n]) g.g (dt_cmp (opr_neG g.g.toGv) ops_ne (de_var g.g.toGv 1 (fl := .s false)) (de_int 0))
 (dss_wk (F := [.s false, .s false, .n]) (F1 := [.o true, .o true, .s true]) (F2 := [.s false, .s false, .n]) (ds_cons (ds_as (F1 := [.s false, .s false, .n]) (f := (.uq true)) g.g.toGv g.fn 2 (de_mod (de_var g.g.toGv 0 (fl := .s false)) (de_var g.g.toGv 1 (fl := .s false))))
  (ds_cons (ds_as (F1 := [.s false, .s false, .o true]) (f := (.uq true)) g.g.toGv g.fn 0 (de_fl (de_var g.g.toGv 1 (fl := .s false))))
  (ds_one (ds_as (F1 := [.o true, .s false, .s true]) (f := (.uq true)) g.g.toGv g.fn 1 (de_fl (de_mv g.g.toGv 2 (fl := .o true)))))))))
  (ds_one (ds_ret (de_abs g.g.toGv h.b_abs (da_cons (de_var g.g.toGv 0 (fl := .s false)) da_nil)))))
def s_is_whole : EvS := (sRet (eAn (eIsi .int (eVar 0)) (eNt (eIsi .bool (eVar 0)))))
def f_is_whole : List D → Rs D := runF 0 s_is_whole
abbrev n_is_whole : List Str := ["thing"]
theorem d_is_whole {G : Gb} (h : Fx G) (X : Cx) (W : WX) (g : Gs G n_is_whole (defScope t_is_whole) 0 W X) : PSs X (defBody t_is_whole) (TSv G ⟨true, W, []⟩ (F0 1 0) [] s_is_whole) :=
  (ds_one (ds_ret (de_and (de_isi g.g.toGv .int h.b_isinstance h.b_int (de_var g.g.toGv 0 (fl := .s false)) tboot_int) (de_one (de_not (de_isi g.g.toGv .bool h.b_isinstance h.b_bool (de_var g.g.toGv 0 (fl := .s false)) tboot_bool))))))
def s_is_ratio : EvS := (sSeq (sIf (tO (tNt (tV (eIsi .tuple (eVar 0)))) (tV (eB2 oNe (eBi oLen (aCons (eVar 0) aNil)) (eC (.int 2)))))
 (sRet (eC (.bl false)))
 sNil)
  (sSeq (sIf (tO (tNt (tV (eCall f_is_whole (aCons (eB2 oIx (eVar 0) (eC (.int 0))) aNil)))) (tO (tNt (tV (eCall f_is_whole (aCons (eB2 oIx (eVar 0) (eC (.int 1))) aNil)))) (tV (eB2 oLt (eB2 oIx (eVar 0) (eC (.int 1))) (eC (.int 1))))))
 (sRet (eC (.bl false)))
 sNil)
  (sRet (eB2 oEq (eCall f_divisor (aCons (eB2 oIx (eVar 0) (eC (.int 0))) (aCons (eB2 oIx (eVar 0) (eC (.int 1))) aNil))) (eC (.int 1))))))
def f_is_ratio : List D → Rs D := runF 0 s_is_ratio
abbrev n_is_ratio : List Str := ["thing"]
theorem d_is_ratio {G : Gb} (h : Fx G) (c_divisor : Cal G 1 "divisor" true 2 f_divisor) (c_is_whole : Cal G 1 "is_whole" true 1 f_is_whole) (X : Cx) (W : WX) (g : Gs G n_is_ratio (defScope t_is_ratio) 1 W X) : PSs X (defBody t_is_ratio) (TSv G ⟨true, W, []⟩ (F0 1 0) [] s_is_ratio) :=
  (ds_cons (ds_if (F := [.s false]) (F1 := [.s false]) (Fo := [.s false]) (dt_w (dw_or (dt_not (dt_val (de_isi g.g.toGv .tuple h.b_isinstance h.b_tuple (de_var g.g.toGv 0 (fl := .s false)) tboot_tuple))) (dw_or1 (dt_cmp (opr_neG g.g.toGv) ops_ne (de_len g.g.toGv h.b_len (da_cons (de_var g.g.toGv 0 (fl := .s false)) da_nil)) (de_int 2)))))
 (ds_one (ds_ret (de_bl false)))
 ds_nil)
  (ds_cons (ds_if (F := [.s false]) (F1 := [.s false]) (Fo := [.s false]) (dt_w (dw_or (dt_not (dt_val (de_call g.g c_is_whole (da_cons (de_ix g.g.toGv (de_var g.g.toGv 0 (fl := .s false)) (de_int 0)) da_nil)))) (dw_or (dt_not (dt_val (de_call g.g c_is_whole (da_cons (de_ix g.g.toGv (de_var g.g.toGv 0 (fl := .s false)) (de_int 1)) da_nil)))) (dw_or1 (dt_cmp op_lt (ops_CI fun i j => decide (i < j)) (de_ix g.g.toGv (de_var g.g.toGv 0 (fl := .s false)) (de_int 1)) (de_int 1))))))
 (ds_one (ds_ret (de_bl false)))
 ds_nil)
  (ds_one (ds_ret (de_cmp (opr_eqG g.g.toGv) ops_eq (de_call g.g c_divisor (da_cons (de_ix g.g.toGv (de_var g.g.toGv 0 (fl := .s false)) (de_int 0)) (da_cons (de_ix g.g.toGv (de_var g.g.toGv 0 (fl := .s false)) (de_int 1)) da_nil))) (de_int 1))))))
def s_is_road : EvS := (sSeq (sIf (tO (tNt (tV (eIsi .tuple (eVar 0)))) (tV (eB2 oNe (eBi oLen (aCons (eVar 0) aNil)) (eC (.int 2)))))
 (sRet (eC (.bl false)))
 sNil)
  (sSeq (sIf (tO (tNt (tV (eCall f_is_whole (aCons (eB2 oIx (eVar 0) (eC (.int 0))) aNil)))) (tO (tV (eB2 oLt (eB2 oIx (eVar 0) (eC (.int 0))) (eC (.int 0)))) (tV (eB2 oGt (eB2 oIx (eVar 0) (eC (.int 0))) (eVar 1)))))
 (sRet (eC (.bl false)))
 sNil)
  (sRet (eAn (eCall f_is_ratio (aCons (eB2 oIx (eVar 0) (eC (.int 1))) aNil)) (eB2 oGe (eB2 oIx (eB2 oIx (eVar 0) (eC (.int 1))) (eC (.int 0))) (eC (.int 0)))))))
def f_is_road : List D → Rs D := runF 0 s_is_road
abbrev n_is_road : List Str := ["thing", "many"]
theorem d_is_road {G : Gb} (h : Fx G) (c_is_ratio : Cal G 2 "is_ratio" true 1 f_is_ratio) (c_is_whole : Cal G 1 "is_whole" true 1 f_is_whole) (X : Cx) (W : WX) (g : Gs G n_is_road (defScope t_is_road) 2 W X) : PSs X (defBody t_is_road) (TSv G ⟨true, W, []⟩ (F0 2 0) [] s_is_road) :=
  (ds_cons (ds_if (F := [.s false, .s false]) (F1 := [.s false, .s false]) (Fo := [.s false, .s false]) (dt_w (dw_or (dt_not (dt_val (de_isi g.g.toGv .tuple h.b_isinstance h.b_tuple (de_var g.g.toGv 0 (fl := .s false)) tboot_tuple))) (dw_or1 (dt_cmp (opr_neG g.g.toGv) ops_ne (de_len g.g.toGv h.b_len (da_cons (de_var g.g.toGv 0 (fl := .s false)) da_nil)) (de_int 2)))))
 (ds_one (ds_ret (de_bl false)))
 ds_nil)
  (ds_cons (ds_if (F := [.s false, .s false]) (F1 := [.s false, .s false]) (Fo := [.s false, .s false]) (dt_w (dw_or (dt_not (dt_val (de_call g.g c_is_whole (da_cons (de_ix g.g.toGv (de_var g.g.toGv 0 (fl := .s false)) (de_int 0)) da_nil)))) (dw_or (dt_cmp op_lt (ops_CI fun i j => decide (i < j)) (de_ix g.g.toGv (de_var g.g.toGv 0 (fl := .s false)) (de_int 0)) (de_int 0)) (dw_or1 (dt_cmp op_gt (ops_CI fun i j => decide (j < i)) (de_ix g.g.toGv (de_var g.g.toGv 0 (fl := .s false)) (de_int 0)) (de_var g.g.toGv 1 (fl := .s false)))))))
 (ds_one (ds_ret (de_bl false)))
 ds_nil)
  (ds_one (ds_ret (de_and (de_call g.g c_is_ratio (da_cons (de_ix g.g.toGv (de_var g.g.toGv 0 (fl := .s false)) (de_int 1)) da_nil)) (de_one (de_cmp op_ge (ops_CI fun i j => decide (j ≤ i)) (de_ix g.g.toGv (de_ix g.g.toGv (de_var g.g.toGv 0 (fl := .s false)) (de_int 1)) (de_int 0)) (de_int 0))))))))
def s_way_from : EvS := (sSeq (sAs 2 (eLst aNil))
  (sSeq (sWh (tV (eB2 oNe (eVar 1) (eC (.int 0))))
 (sSeq (sIf (tV (eB2 oEq (eBi oLen (aCons (eVar 2) aNil)) (eBi oLen (aCons (eVar 0) aNil))))
 (sRet (eC .non))
 sNil)
  (sSeq (sApp 2 (eFl (eVar 1)))
  (sAs 1 (eFl (eB2 oIx (eB2 oIx (eVar 0) (eB2 oSub (eVar 1) (eC (.int 1)))) (eC (.int 0))))))))
  (sRet (eVar 2))))
def f_way_from : List D → Rs D := runF 1 s_way_from
abbrev n_way_from : List Str := ["roads", "k", "way"]
theorem d_way_from {G : Gb} (h : Fx G) (X : Cx) (W : WX) (g : Gs G n_way_from (defScope t_way_from) 0 W X) : PSs X (defBody t_way_from) (TSv G ⟨true, W, []⟩ (F0 2 1) [] s_way_from) :=
  (ds_cons (ds_as (F1 := [.s false, .s false, .n]) (f := (.uq true)) g.g.toGv g.fn 2 (de_lst da_nil))
  (ds_cons (ds_while (F := [.s false, .s false, .o true]) g.g (dt_cmp (opr_neG g.g.toGv) ops_ne (de_var g.g.toGv 1 (fl := .s false)) (de_int 0))
 (dss_wk (F := [.s false, .s false, .o true]) (F1 := [.s false, .o true, .o true]) (F2 := [.s false, .s false, .o true]) (ds_cons (ds_if (F := [.s false, .s false, .o true]) (F1 := [.s false, .s false, .o true]) (Fo := [.s false, .s false, .o true]) (dt_cmp (opr_eqG g.g.toGv) ops_eq (de_len g.g.toGv h.b_len (da_cons (de_var g.g.toGv 2 (fl := .o true)) da_nil)) (de_len g.g.toGv h.b_len (da_cons (de_var g.g.toGv 0 (fl := .s false)) da_nil)))
 (ds_one (ds_ret de_non))
 ds_nil)
  (ds_cons (ds_app (F1 := [.s false, .s false, .o true]) (f := (.uq true)) g.g.toGv 2 (dp0 := true) (dp := true) (de_fl (de_var g.g.toGv 1 (fl := .s false))))
  (ds_one (ds_as (F1 := [.s false, .s false, .o true]) (f := (.uq true)) g.g.toGv g.fn 1 (de_fl (de_ix g.g.toGv (de_ix g.g.toGv (de_var g.g.toGv 0 (fl := .s false)) (de_sub (de_var g.g.toGv 1 (fl := .s false)) (de_int 1))) (de_int 0)))))))))
  (ds_one (ds_ret (de_tk g.g.toGv 2 (fl := .o true))))))
def sB_Tree___init__ : EvS := (sSeq (sIf (tO (tNt (tV (eIsi .list (eVar 1)))) (tV (eB2 oGt (eBi oLen (aCons (eVar 1) aNil)) (eC g_MOST_ROADS))))
 (sRai 0)
 sNil)
  (sSeq (sFor (iL (eVar 1)) (set1 2)
 (sIf (tNt (tV (eCall f_is_road (aCons (eVar 2) (aCons (eBi oLen (aCons (eVar 1) aNil)) aNil)))))
 (sRai 0)
 sNil))
  (sSeq (sFor (iRn (aCons (eC (.int 1)) (aCons (eB2 oAdd (eBi oLen (aCons (eVar 1) aNil)) (eC (.int 1))) aNil))) (set1 3)
 (sIf (tV (eB2 (oIs false) (eCall f_way_from (aCons (eVar 1) (aCons (eVar 3) aNil))) (eC .non)))
 (sRai 0)
 sNil))
  sStuck)))
def sM_Tree___init__ : EvX := (xIf' (tO (tNt (tV (eIsi .list (eVar 1)))) (tV (eB2 oGt (eBi oLen (aCons (eVar 1) aNil)) (eC g_MOST_ROADS))))
 (fun _ => .error .stuck)
 (sB (sFor (iL (eVar 1)) (set1 2)
 (sIf (tNt (tV (eCall f_is_road (aCons (eVar 2) (aCons (eBi oLen (aCons (eVar 1) aNil)) aNil)))))
 (sRai 0)
 sNil))
 (sB (sFor (iRn (aCons (eC (.int 1)) (aCons (eB2 oAdd (eBi oLen (aCons (eVar 1) aNil)) (eC (.int 1))) aNil))) (set1 3)
 (sIf (tV (eB2 (oIs false) (eCall f_way_from (aCons (eVar 1) (aCons (eVar 3) aNil))) (eC .non)))
 (sRai 0)
 sNil))
 (sB (sSetM 0 0 0 (.o .s) (eBi oList (aCons (eVar 1) aNil)))
 (fun en => .ok (.non, en))))))
def f_Tree___init__ : List D → Rs D := runX 1 2 sB_Tree___init__ sM_Tree___init__
def fB_Tree___init__ : List D → Rs D := runF 2 sB_Tree___init__
abbrev n_Tree___init__ : List Str := ["self", "roads", "road", "k"]
theorem dB_Tree___init__ {G : Gb} (h : Fx G) (c_is_road : Cal G 3 "is_road" true 2 f_is_road) (c_way_from : Cal G 1 "way_from" true 2 f_way_from) (X : Cx) (W : WX) (g : Gs G n_Tree___init__ (defScope t_Tree___init__) 3 W X) : PSs X (defBody t_Tree___init__) (TSv G ⟨false, W, []⟩ (F0 2 2) [] sB_Tree___init__) :=
  (ds_cons (ds_if (F := [.s false, .s false, .n, .n]) (F1 := [.s false, .s false, .n, .n]) (Fo := [.s false, .s false, .n, .n]) (dt_w (dw_or (dt_not (dt_val (de_isi g.g.toGv .list h.b_isinstance h.b_list (de_var g.g.toGv 1 (fl := .s false)) tboot_list))) (dw_or1 (dt_cmp op_gt (ops_CI fun i j => decide (j < i)) (de_len g.g.toGv h.b_len (da_cons (de_var g.g.toGv 1 (fl := .s false)) da_nil)) (de_glo g.g.toGv h.g_MOST_ROADS)))))
 (ds_one (ds_rai g.g h.x_NoTree))
 ds_nil)
  (ds_cons (ds_for (F := [.s false, .s false, .n, .n]) (F1 := [.s false, .s false, .n, .n]) (F2 := [.s false, .s false, .s false, .n]) (Fh := [.s false, .s false, .n, .n]) g (di_list g.g (de_var g.g.toGv 1 (fl := .s false))) (tg_name g.g.toGv g.fn 2)
 (dss_wk (F := [.s false, .s false, .s false, .n]) (F1 := [.s false, .s false, .s false, .n]) (F2 := [.s false, .s false, .n, .n]) (ds_one (ds_if (F := [.s false, .s false, .s false, .n]) (F1 := [.s false, .s false, .s false, .n]) (Fo := [.s false, .s false, .s false, .n]) (dt_not (dt_val (de_call g.g c_is_road (da_cons (de_var g.g.toGv 2 (fl := .s false)) (da_cons (de_len g.g.toGv h.b_len (da_cons (de_var g.g.toGv 1 (fl := .s false)) da_nil)) da_nil)))))
 (ds_one (ds_rai g.g h.x_NoTree))
 ds_nil))))
  (ds_cons (ds_for (F := [.s false, .s false, .n, .n]) (F1 := [.s false, .s false, .n, .n]) (F2 := [.s false, .s false, .n, .s true]) (Fh := [.s false, .s false, .n, .n]) g (di_range2 g.g h.b_range (da_cons (de_int 1) (da_cons (de_add (de_len g.g.toGv h.b_len (da_cons (de_var g.g.toGv 1 (fl := .s false)) da_nil)) (de_int 1)) da_nil))) (tg_name g.g.toGv g.fn 3)
 (dss_wk (F := [.s false, .s false, .n, .s true]) (F1 := [.s false, .s false, .n, .s true]) (F2 := [.s false, .s false, .n, .n]) (ds_one (ds_if (F := [.s false, .s false, .n, .s true]) (F1 := [.s false, .s false, .n, .s true]) (Fo := [.s false, .s false, .n, .s true]) (dt_cmp opr_is (ops_is false) (de_call g.g c_way_from (da_cons (de_var g.g.toGv 1 (fl := .s false)) (da_cons (de_var g.g.toGv 3 (fl := .s true)) da_nil))) de_non)
 (ds_one (ds_rai g.g h.x_NoTree))
 ds_nil))))
  dss_stuck)))
theorem dM_Tree___init__ {G : Gb} (h : Fx G) (c_is_road : Cal G 3 "is_road" true 2 f_is_road) (c_way_from : Cal G 1 "way_from" true 2 f_way_from) (X : Cx) (W : WX) (g : Gs G n_Tree___init__ (defScope t_Tree___init__) 3 W X) : PSs X (defBody t_Tree___init__) (TBv G W true (FX [(.m (.cons (.o .s) .nil))] 2 2) [(.ma (.m (.cons (.o .s) .nil))), .n, .n, .n] sM_Tree___init__) :=
  (db_if (F := [(.ma (.m (.cons (.o .s) .nil))), .s false, .n, .n]) (F1 := [(.ma (.m (.cons (.o .s) .nil))), .s false, .n, .n]) (dt_w (dw_or (dt_not (dt_val (de_isi g.g.toGv .list h.b_isinstance h.b_list (de_var g.g.toGv 1 (fl := .s false)) tboot_list))) (dw_or1 (dt_cmp op_gt (ops_CI fun i j => decide (j < i)) (de_len g.g.toGv h.b_len (da_cons (de_var g.g.toGv 1 (fl := .s false)) da_nil)) (de_glo g.g.toGv h.g_MOST_ROADS)))))
 db_stuck
 (db_cons (F := [(.ma (.m (.cons (.o .s) .nil))), .s false, .n, .n]) (F1 := [(.ma (.m (.cons (.o .s) .nil))), .s false, .n, .n]) (ds_for (F := [(.ma (.m (.cons (.o .s) .nil))), .s false, .n, .n]) (F1 := [(.ma (.m (.cons (.o .s) .nil))), .s false, .n, .n]) (F2 := [(.ma (.m (.cons (.o .s) .nil))), .s false, .s false, .n]) (Fh := [(.ma (.m (.cons (.o .s) .nil))), .s false, .n, .n]) g (di_list g.g (de_var g.g.toGv 1 (fl := .s false))) (tg_name g.g.toGv g.fn 2)
 (dss_wk (F := [(.ma (.m (.cons (.o .s) .nil))), .s false, .s false, .n]) (F1 := [(.ma (.m (.cons (.o .s) .nil))), .s false, .s false, .n]) (F2 := [(.ma (.m (.cons (.o .s) .nil))), .s false, .n, .n]) (ds_one (ds_if (F := [(.ma (.m (.cons (.o .s) .nil))), .s false, .s false, .n]) (F1 := [(.ma (.m (.cons (.o .s) .nil))), .s false, .s false, .n]) (Fo := [(.ma (.m (.cons (.o .s) .nil))), .s false, .s false, .n]) (dt_not (dt_val (de_call g.g c_is_road (da_cons (de_var g.g.toGv 2 (fl := .s false)) (da_cons (de_len g.g.toGv h.b_len (da_cons (de_var g.g.toGv 1 (fl := .s false)) da_nil)) da_nil)))))
 (ds_one (ds_rai g.g h.x_NoTree))
 ds_nil))))
 (db_cons (F := [(.ma (.m (.cons (.o .s) .nil))), .s false, .n, .n]) (F1 := [(.ma (.m (.cons (.o .s) .nil))), .s false, .n, .n]) (ds_for (F := [(.ma (.m (.cons (.o .s) .nil))), .s false, .n, .n]) (F1 := [(.ma (.m (.cons (.o .s) .nil))), .s false, .n, .n]) (F2 := [(.ma (.m (.cons (.o .s) .nil))), .s false, .n, .s true]) (Fh := [(.ma (.m (.cons (.o .s) .nil))), .s false, .n, .n]) g (di_range2 g.g h.b_range (da_cons (de_int 1) (da_cons (de_add (de_len g.g.toGv h.b_len (da_cons (de_var g.g.toGv 1 (fl := .s false)) da_nil)) (de_int 1)) da_nil))) (tg_name g.g.toGv g.fn 3)
 (dss_wk (F := [(.ma (.m (.cons (.o .s) .nil))), .s false, .n, .s true]) (F1 := [(.ma (.m (.cons (.o .s) .nil))), .s false, .n, .s true]) (F2 := [(.ma (.m (.cons (.o .s) .nil))), .s false, .n, .n]) (ds_one (ds_if (F := [(.ma (.m (.cons (.o .s) .nil))), .s false, .n, .s true]) (F1 := [(.ma (.m (.cons (.o .s) .nil))), .s false, .n, .s true]) (Fo := [(.ma (.m (.cons (.o .s) .nil))), .s false, .n, .s true]) (dt_cmp opr_is (ops_is false) (de_call g.g c_way_from (da_cons (de_var g.g.toGv 1 (fl := .s false)) (da_cons (de_var g.g.toGv 3 (fl := .s true)) da_nil))) de_non)
 (ds_one (ds_rai g.g h.x_NoTree))
 ds_nil))))
 (db_cons (F := [(.ma (.m (.cons (.o .s) .nil))), .s false, .n, .n]) (F1 := [(.ma (.m (.cons (.o .s) .nil))), .s false, .n, .n]) (ds_setM (F := [(.ma (.m (.cons (.o .s) .nil))), .s false, .n, .n]) (F1 := [(.ma (.m (.cons (.o .s) .nil))), .s false, .n, .n]) (fl := (.ma (.m (.cons (.o .s) .nil)))) (fs := (.cons (.o .s) .nil)) (fv := (.uq false)) (j := 0) g.g.toGv h.k_Tree 0 (de_list g.g h.b_list (da_cons (de_var g.g.toGv 1 (fl := .s false)) da_nil)))
 (db_pre (F := [(.ma (.m (.cons (.o .s) .nil))), .s false, .n, .n]) (F1 := [(.ma (.m (.cons (.o .s) .nil))), .n, .n, .n]) db_nil)))))
def hd__law_refused_0 (e : Nat) : EvS := (sAs 1 (eAn (eIsE xs e [(.own "NoTree")]) (eAn (eIsE xs e [(.ty "ValueError")]) (eNt (eIsE xs e [(.own "NoPlace")])))))
def s__law_refused : EvS := (sSeq (sAs 1 (eC (.bl false)))
  (sSeq (sTry 2 (fun e => isxS (xnm xs e) (.own "ShareError")) (xEx (eMkN 0 (.cons (.o .s) .nil) f_Tree___init__ (aCons (eVar 0) aNil))) hd__law_refused_0)
  (sRet (eVar 1))))
def f__law_refused : List D → Rs D := runF 2 s__law_refused
abbrev n__law_refused : List Str := ["_law_thing", "_law_refused_here", "e"]
theorem d__law_refused {G : Gb} (h : Fx G) (c_Tree___init__ : MakX G 4 0 (.m (.cons (.o .s) .nil)) 1 f_Tree___init__) (X : Cx) (W : WX) (g : Gs G n__law_refused (defScope t__law_refused) 5 W X) : PSs X (defBody t__law_refused) (TSv G ⟨true, W, []⟩ (F0 1 2) [] s__law_refused) :=
  (ds_cons (ds_as (F1 := [.s false, .n, .n]) (f := (.uq true)) g.g.toGv g.fn 1 (de_bl false))
  (ds_cons (ds_try (F := [.s false, .o true, .n]) (Fo := [.s false, .o true, .n]) g h.xk 2 (.own "ShareError") (fun X' W' g => (dx_ex (de_new (F := [.s false, .s false, .n]) (F1 := [.s false, .s false, .n]) (de_mkN (fs := (.cons (.o .s) .nil)) g.g h.k_Tree c_Tree___init__ (da_cons (de_var g.g.toGv 0 (fl := .s false)) da_nil))))) (fun X' a e v vf hs => (ds_one (ds_as (F1 := [.s false, .o true, .x a]) (f := (.uq true)) v vf 1 (de_and (de_isE v hs h.xk 2 (.own "NoTree") h.b_isinstance) (de_and (de_isE v hs h.xk 2 (.ty "ValueError") h.b_isinstance) (de_one (de_not (de_isE v hs h.xk 2 (.own "NoPlace") h.b_isinstance)))))))))
  (ds_one (ds_ret (de_tk g.g.toGv 1 (fl := .o true))))))
def s_Tree_roads : EvS := (sRet (eFi (eBi oList (aCons (eFld 0 0 (eVar 0)) aNil))))
def f_Tree_roads : List D → Rs D := runF 0 s_Tree_roads
abbrev n_Tree_roads : List Str := ["self"]
theorem d_Tree_roads {G : Gb} (h : Fx G) (X : Cx) (W : WX) (g : Gs G n_Tree_roads (defScope t_Tree_roads) 0 W X) : PSs X (defBody t_Tree_roads) (TSv G ⟨true, W, []⟩ (F0 1 0) [] s_Tree_roads) :=
  (ds_one (ds_ret (de_fi (de_list g.g h.b_list (da_cons (de_fld (j := 0) g.g.toGv h.k_Tree (de_var g.g.toGv 0 (fl := .s false))) da_nil)))))
def s_Tree_many : EvS := (sRet (eB2 oAdd (eBi oLen (aCons (eFld 0 0 (eVar 0)) aNil)) (eC (.int 1))))
def f_Tree_many : List D → Rs D := runF 0 s_Tree_many
abbrev n_Tree_many : List Str := ["self"]
theorem d_Tree_many {G : Gb} (h : Fx G) (X : Cx) (W : WX) (g : Gs G n_Tree_many (defScope t_Tree_many) 0 W X) : PSs X (defBody t_Tree_many) (TSv G ⟨true, W, []⟩ (F0 1 0) [] s_Tree_many) :=
  (ds_one (ds_ret (de_add (de_len g.g.toGv h.b_len (da_cons (de_fld (j := 0) g.g.toGv h.k_Tree (de_var g.g.toGv 0 (fl := .s false))) da_nil)) (de_int 1))))
def s_Tree_road_at : EvS := (sSeq (sIf (tO (tV (eB2 oLt (eVar 1) (eC (.int 1)))) (tV (eB2 oGt (eVar 1) (eBi oLen (aCons (eFld 0 0 (eVar 0)) aNil)))))
 (sRai 1)
 sNil)
  (sRet (eFl (eB2 oIx (eFld 0 0 (eVar 0)) (eB2 oSub (eVar 1) (eC (.int 1)))))))
def f_Tree_road_at : List D → Rs D := runF 0 s_Tree_road_at
abbrev n_Tree_road_at : List Str := ["self", "k"]
theorem d_Tree_road_at {G : Gb} (h : Fx G) (X : Cx) (W : WX) (g : Gs G n_Tree_road_at (defScope t_Tree_road_at) 0 W X) : PSs X (defBody t_Tree_road_at) (TSv G ⟨true, W, []⟩ (F0 2 0) [] s_Tree_road_at) :=
  (ds_cons (ds_if (F := [.s false, .s false]) (F1 := [.s false, .s false]) (Fo := [.s false, .s false]) (dt_w (dw_or (dt_cmp op_lt (ops_CI fun i j => decide (i < j)) (de_var g.g.toGv 1 (fl := .s false)) (de_int 1)) (dw_or1 (dt_cmp op_gt (ops_CI fun i j => decide (j < i)) (de_var g.g.toGv 1 (fl := .s false)) (de_len g.g.toGv h.b_len (da_cons (de_fld (j := 0) g.g.toGv h.k_Tree (de_var g.g.toGv 0 (fl := .s false))) da_nil))))))
 (ds_one (ds_rai g.g h.x_NoPlace))
 ds_nil)
  (ds_one (ds_ret (de_fl (de_ix g.g.toGv (de_fld (j := 0) g.g.toGv h.k_Tree (de_var g.g.toGv 0 (fl := .s false))) (de_sub (de_var g.g.toGv 1 (fl := .s false)) (de_int 1)))))))
def s_Tree_leads_to : EvS := (sRet (eFl (eB2 oIx (eMeth 0 f_Tree_road_at (eVar 0) (aCons (eVar 1) aNil)) (eC (.int 0)))))
def f_Tree_leads_to : List D → Rs D := runF 0 s_Tree_leads_to
abbrev n_Tree_leads_to : List Str := ["self", "k"]
theorem d_Tree_leads_to {G : Gb} (h : Fx G) (c_Tree_road_at : MetC G 1 0 "road_at" true 1 f_Tree_road_at) (X : Cx) (W : WX) (g : Gs G n_Tree_leads_to (defScope t_Tree_leads_to) 1 W X) : PSs X (defBody t_Tree_leads_to) (TSv G ⟨true, W, []⟩ (F0 2 0) [] s_Tree_leads_to) :=
  (ds_one (ds_ret (de_fl (de_ix g.g.toGv (de_meth g.g h.k_Tree c_Tree_road_at (de_var g.g.toGv 0 (fl := .s false)) (da_cons (de_var g.g.toGv 1 (fl := .s false)) da_nil)) (de_int 0)))))
def s_Tree_price : EvS := (sRet (eFl (eB2 oIx (eMeth 0 f_Tree_road_at (eVar 0) (aCons (eVar 1) aNil)) (eC (.int 1)))))
def f_Tree_price : List D → Rs D := runF 0 s_Tree_price
abbrev n_Tree_price : List Str := ["self", "k"]
theorem d_Tree_price {G : Gb} (h : Fx G) (c_Tree_road_at : MetC G 1 0 "road_at" true 1 f_Tree_road_at) (X : Cx) (W : WX) (g : Gs G n_Tree_price (defScope t_Tree_price) 1 W X) : PSs X (defBody t_Tree_price) (TSv G ⟨true, W, []⟩ (F0 2 0) [] s_Tree_price) :=
  (ds_one (ds_ret (de_fl (de_ix g.g.toGv (de_meth g.g h.k_Tree c_Tree_road_at (de_var g.g.toGv 0 (fl := .s false)) (da_cons (de_var g.g.toGv 1 (fl := .s false)) da_nil)) (de_int 1)))))
def s__law_tells : EvS := (sSeq (sAs 2 (eMeth 0 f_Tree_roads (eVar 0) aNil))
  (sSeq (sIf (tO (tNt (tV (eIsi .list (eVar 2)))) (tO (tV (eB2 oNe (eVar 2) (eVar 1))) (tV (eB2 oNe (eMeth 0 f_Tree_many (eVar 0) aNil) (eB2 oAdd (eBi oLen (aCons (eVar 1) aNil)) (eC (.int 1)))))))
 (sRet (eC (.bl false)))
 sNil)
  (sSeq (sFor (iRn (aCons (eBi oLen (aCons (eVar 1) aNil)) aNil)) (set1 3)
 (sSeq (sIf (tO (tNt (tV (eIsi .tuple (eB2 oIx (eVar 2) (eVar 3))))) (tO (tNt (tV (eIsi .tuple (eB2 oIx (eB2 oIx (eVar 2) (eVar 3)) (eC (.int 1)))))) (tV (eIsi .bool (eB2 oIx (eB2 oIx (eVar 2) (eVar 3)) (eC (.int 0)))))))
 (sRet (eC (.bl false)))
 sNil)
  (sIf (tO (tV (eB2 oNe (eMeth 0 f_Tree_leads_to (eVar 0) (aCons (eB2 oAdd (eVar 3) (eC (.int 1))) aNil)) (eB2 oIx (eB2 oIx (eVar 1) (eVar 3)) (eC (.int 0))))) (tV (eB2 oNe (eMeth 0 f_Tree_price (eVar 0) (aCons (eB2 oAdd (eVar 3) (eC (.int 1))) aNil)) (eB2 oIx (eB2 oIx (eVar 1) (eVar 3)) (eC (.int 1))))))
 (sRet (eC (.bl false)))
 sNil)))
  (sSeq (sApp 2 (eTup (aCons (eC (.int 0)) (aCons (eTup (aCons (eC (.int 1)) (aCons (eC (.int 1)) aNil))) aNil))))
  (sSeq (sRev 2)
  (sRet (eC (.bl true))))))))
def f__law_tells : List D → Rs D := runF 2 s__law_tells
abbrev n__law_tells : List Str := ["_law_tree", "_law_roads", "_law_told", "_law_k"]
theorem d__law_tells {G : Gb} (h : Fx G) (c_Tree_roads : MetC G 1 0 "roads" true 0 f_Tree_roads) (c_Tree_many : MetC G 1 0 "many" true 0 f_Tree_many) (c_Tree_leads_to : MetC G 2 0 "leads_to" true 1 f_Tree_leads_to) (c_Tree_price : MetC G 2 0 "price" true 1 f_Tree_price) (X : Cx) (W : WX) (g : Gs G n__law_tells (defScope t__law_tells) 2 W X) : PSs X (defBody t__law_tells) (TSv G ⟨true, W, []⟩ (F0 2 2) [] s__law_tells) :=
  (ds_cons (ds_as (F1 := [.s false, .s false, .n, .n]) (f := (.uq true)) g.g.toGv g.fn 2 (de_meth0 g.g h.k_Tree c_Tree_roads (de_var g.g.toGv 0 (fl := .s false))))
  (ds_cons (ds_if (F := [.s false, .s false, .o true, .n]) (F1 := [.s false, .s false, .o true, .n]) (Fo := [.s false, .s false, .o true, .n]) (dt_w (dw_or (dt_not (dt_val (de_isi g.g.toGv .list h.b_isinstance h.b_list (de_var g.g.toGv 2 (fl := .o true)) tboot_list))) (dw_or (dt_cmp (opr_neG g.g.toGv) ops_ne (de_var g.g.toGv 2 (fl := .o true)) (de_var g.g.toGv 1 (fl := .s false))) (dw_or1 (dt_cmp (opr_neG g.g.toGv) ops_ne (de_meth0 g.g h.k_Tree c_Tree_many (de_var g.g.toGv 0 (fl := .s false))) (de_add (de_len g.g.toGv h.b_len (da_cons (de_var g.g.toGv 1 (fl := .s false)) da_nil)) (de_int 1)))))))
 (ds_one (ds_ret (de_bl false)))
 ds_nil)
  (ds_cons (ds_for (F := [.s false, .s false, .o true, .n]) (F1 := [.s false, .s false, .o true, .n]) (F2 := [.s false, .s false, .o true, .s true]) (Fh := [.s false, .s false, .o true, .n]) g (di_range1 g.g h.b_range (da_cons (de_len g.g.toGv h.b_len (da_cons (de_var g.g.toGv 1 (fl := .s false)) da_nil)) da_nil)) (tg_name g.g.toGv g.fn 3)
 (dss_wk (F := [.s false, .s false, .o true, .s true]) (F1 := [.s false, .s false, .o true, .s true]) (F2 := [.s false, .s false, .o true, .n]) (ds_cons (ds_if (F := [.s false, .s false, .o true, .s true]) (F1 := [.s false, .s false, .o true, .s true]) (Fo := [.s false, .s false, .o true, .s true]) (dt_w (dw_or (dt_not (dt_val (de_isi g.g.toGv .tuple h.b_isinstance h.b_tuple (de_ix g.g.toGv (de_var g.g.toGv 2 (fl := .o true)) (de_var g.g.toGv 3 (fl := .s true))) tboot_tuple))) (dw_or (dt_not (dt_val (de_isi g.g.toGv .tuple h.b_isinstance h.b_tuple (de_ix g.g.toGv (de_ix g.g.toGv (de_var g.g.toGv 2 (fl := .o true)) (de_var g.g.toGv 3 (fl := .s true))) (de_int 1)) tboot_tuple))) (dw_or1 (dt_val (de_isi g.g.toGv .bool h.b_isinstance h.b_bool (de_ix g.g.toGv (de_ix g.g.toGv (de_var g.g.toGv 2 (fl := .o true)) (de_var g.g.toGv 3 (fl := .s true))) (de_int 0)) tboot_bool))))))
 (ds_one (ds_ret (de_bl false)))
 ds_nil)
  (ds_one (ds_if (F := [.s false, .s false, .o true, .s true]) (F1 := [.s false, .s false, .o true, .s true]) (Fo := [.s false, .s false, .o true, .s true]) (dt_w (dw_or (dt_cmp (opr_neG g.g.toGv) ops_ne (de_meth g.g h.k_Tree c_Tree_leads_to (de_var g.g.toGv 0 (fl := .s false)) (da_cons (de_add (de_var g.g.toGv 3 (fl := .s true)) (de_int 1)) da_nil)) (de_ix g.g.toGv (de_ix g.g.toGv (de_var g.g.toGv 1 (fl := .s false)) (de_var g.g.toGv 3 (fl := .s true))) (de_int 0))) (dw_or1 (dt_cmp (opr_neG g.g.toGv) ops_ne (de_meth g.g h.k_Tree c_Tree_price (de_var g.g.toGv 0 (fl := .s false)) (da_cons (de_add (de_var g.g.toGv 3 (fl := .s true)) (de_int 1)) da_nil)) (de_ix g.g.toGv (de_ix g.g.toGv (de_var g.g.toGv 1 (fl := .s false)) (de_var g.g.toGv 3 (fl := .s true))) (de_int 1))))))
 (ds_one (ds_ret (de_bl false)))
 ds_nil)))))
  (ds_cons (ds_app (F1 := [.s false, .s false, .o true, .n]) (f := (.uq true)) g.g.toGv 2 (dp0 := true) (dp := true) (de_tup (da_cons (de_int 0) (da_cons (de_tup (da_cons (de_int 1) (da_cons (de_int 1) da_nil))) da_nil))))
  (ds_cons (ds_rev (dp := true) g.g.toGv 2)
  (ds_one (ds_ret (de_bl true))))))))
def hd__law_no_road_0 (e : Nat) : EvS := (sAs 2 (eB2 oAdd (eVar 2) (eBi oInt (aCons (eAn (eIsE xs e [(.own "NoPlace")]) (eNt (eIsE xs e [(.own "NoTree")]))) aNil))))
def s__law_no_road : EvS := (sSeq (sAs 2 (eC (.int 0)))
  (sSeq (sTry 3 (fun e => isxS (xnm xs e) (.own "ShareError")) (xEx (eMeth 0 f_Tree_price (eVar 0) (aCons (eVar 1) aNil))) hd__law_no_road_0)
  (sSeq (sTry0 (fun e => isxS (xnm xs e) (.own "NoPlace")) (xEx (eMeth 0 f_Tree_leads_to (eVar 0) (aCons (eVar 1) aNil))) (sAs 2 (eB2 oAdd (eVar 2) (eC (.int 1)))))
  (sRet (eB2 oEq (eVar 2) (eC (.int 2)))))))
def f__law_no_road : List D → Rs D := runF 2 s__law_no_road
abbrev n__law_no_road : List Str := ["_law_tree", "_law_k", "_law_told", "e"]
theorem d__law_no_road {G : Gb} (h : Fx G) (c_Tree_price : MetC G 2 0 "price" true 1 f_Tree_price) (c_Tree_leads_to : MetC G 2 0 "leads_to" true 1 f_Tree_leads_to) (X : Cx) (W : WX) (g : Gs G n__law_no_road (defScope t__law_no_road) 2 W X) : PSs X (defBody t__law_no_road) (TSv G ⟨true, W, []⟩ (F0 2 2) [] s__law_no_road) :=
  (ds_cons (ds_as (F1 := [.s false, .s false, .n, .n]) (f := (.uq true)) g.g.toGv g.fn 2 (de_int 0))
  (ds_cons (ds_try (F := [.s false, .s false, .o true, .n]) (Fo := [.s false, .s false, .o true, .n]) g h.xk 3 (.own "ShareError") (fun X' W' g => (dx_ex (de_meth g.g h.k_Tree c_Tree_price (de_var g.g.toGv 0 (fl := .s false)) (da_cons (de_var g.g.toGv 1 (fl := .s false)) da_nil)))) (fun X' a e v vf hs => (ds_one (ds_as (F1 := [.s false, .s false, .o true, .x a]) (f := (.uq true)) v vf 2 (de_add (de_var v 2 (fl := .o true)) (de_int1 v h.b_int (da_cons (de_and (de_isE v hs h.xk 3 (.own "NoPlace") h.b_isinstance) (de_one (de_not (de_isE v hs h.xk 3 (.own "NoTree") h.b_isinstance)))) da_nil)))))))
  (ds_cons (ds_try0 (F := [.s false, .s false, .o true, .n]) (Fo := [.s false, .s false, .o true, .n]) g h.xk (.own "NoPlace") (fun X' W' g => (dx_ex (de_meth g.g h.k_Tree c_Tree_leads_to (de_var g.g.toGv 0 (fl := .s false)) (da_cons (de_var g.g.toGv 1 (fl := .s false)) da_nil)))) (fun X' v vf => (ds_one (ds_as (F1 := [.s false, .s false, .o true, .n]) (f := (.uq true)) v vf 2 (de_add (de_var v 2 (fl := .o true)) (de_int 1))))))
  (ds_one (ds_ret (de_cmp (opr_eqG g.g.toGv) ops_eq (de_var g.g.toGv 2 (fl := .o true)) (de_int 2)))))))
def s__law_bad_road : EvS := (sSeq (sTu [4, 5] (eFl (eB2 oIx (eVar 0) (eVar 1))))
  (sSeq (sIf (tV (eB2 oEq (eVar 2) (eC (.int 0))))
 (sRet (eFs (eB2 oIx (eLst (aCons (eLst (aCons (eVar 4) (aCons (eVar 5) aNil))) (aCons (eTup (aCons (eVar 4) aNil)) (aCons (eTup (aCons (eVar 4) (aCons (eVar 5) (aCons (eC (.int 0)) aNil)))) (aCons (eC .non) (aCons (eC (.str "1")) (aCons (eVar 4) aNil))))))) (eB2 oMod (eVar 3) (eC (.int 6))))))
 sNil)
  (sSeq (sIf (tV (eB2 oEq (eVar 2) (eC (.int 1))))
 (sRet (eTup (aCons (eB2 oIx (eLst (aCons (eB2 oAdd (eBi oLen (aCons (eVar 0) aNil)) (eC (.int 1))) (aCons (eU1 oNeg (eC (.int 1))) (aCons (eC (.bl true)) (aCons (eC (.str "0")) (aCons (eC .non) (aCons (eB2 oPow (eC (.int 10)) (eC (.int 29))) aNil))))))) (eB2 oMod (eVar 3) (eC (.int 6)))) (aCons (eVar 5) aNil))))
 sNil)
  (sSeq (sIf (tV (eB2 oEq (eVar 2) (eC (.int 2))))
 (sRet (eTup (aCons (eVar 4) (aCons (eB2 oIx (eLst (aCons (eTup (aCons (eU1 oNeg (eC (.int 1))) (aCons (eC (.int 2)) aNil))) (aCons (eTup (aCons (eC (.int 2)) (aCons (eC (.int 4)) aNil))) (aCons (eTup (aCons (eC (.int 1)) (aCons (eC (.int 0)) aNil))) (aCons (eC (.int 3)) (aCons (eC .non) (aCons (eLst (aCons (eC (.int 1)) (aCons (eC (.int 2)) aNil))) (aCons (eTup (aCons (eC (.int 1)) (aCons (eU1 oNeg (eC (.int 2))) aNil))) (aCons (eTup (aCons (eC (.bl true)) (aCons (eC (.int 1)) aNil))) (aCons (eTup (aCons (eC (.int 0)) (aCons (eC (.int 2)) aNil))) aNil)))))))))) (eB2 oMod (eVar 3) (eC (.int 9)))) aNil))))
 sNil)
  (sRet (eTup (aCons (eFl (eB2 oAdd (eVar 1) (eC (.int 1)))) (aCons (eVar 5) aNil))))))))
def f__law_bad_road : List D → Rs D := runF 2 s__law_bad_road
abbrev n__law_bad_road : List Str := ["_law_roads", "_law_k", "_law_way", "_law_cell", "_law_to", "_law_price"]
theorem d__law_bad_road {G : Gb} (h : Fx G) (X : Cx) (W : WX) (g : Gs G n__law_bad_road (defScope t__law_bad_road) 0 W X) : PSs X (defBody t__law_bad_road) (TSv G ⟨true, W, []⟩ (F0 4 2) [] s__law_bad_road) :=
  (ds_cons (ds_tu (F1 := [.s false, .s false, .s false, .s false, .n, .n]) (f := (.uq true)) g [4, 5] (de_fl (de_ix g.g.toGv (de_var g.g.toGv 0 (fl := .s false)) (de_var g.g.toGv 1 (fl := .s false)))))
  (ds_cons (ds_if (F := [.s false, .s false, .s false, .s false, .s true, .s true]) (F1 := [.s false, .s false, .s false, .s false, .s true, .s true]) (Fo := [.s false, .s false, .s false, .s false, .s true, .s true]) (dt_cmp (opr_eqG g.g.toGv) ops_eq (de_var g.g.toGv 2 (fl := .s false)) (de_int 0))
 (ds_one (ds_retS (F := [.s false, .s false, .s false, .s false, .s true, .s true]) (F1 := [.s false, .s false, .s false, .s false, .s true, .s true]) (de_ix g.g.toGv (de_lst (da_cons (de_lst (da_cons (de_var g.g.toGv 4 (fl := .s true)) (da_cons (de_var g.g.toGv 5 (fl := .s true)) da_nil))) (da_cons (de_tup (da_cons (de_var g.g.toGv 4 (fl := .s true)) da_nil)) (da_cons (de_tup (da_cons (de_var g.g.toGv 4 (fl := .s true)) (da_cons (de_var g.g.toGv 5 (fl := .s true)) (da_cons (de_int 0) da_nil)))) (da_cons de_non (da_cons (de_str "1") (da_cons (de_var g.g.toGv 4 (fl := .s true)) da_nil))))))) (de_mod (de_var g.g.toGv 3 (fl := .s false)) (de_int 6)))))
 ds_nil)
  (ds_cons (ds_if (F := [.s false, .s false, .s false, .s false, .s true, .s true]) (F1 := [.s false, .s false, .s false, .s false, .s true, .s true]) (Fo := [.s false, .s false, .s false, .s false, .s true, .s true]) (dt_cmp (opr_eqG g.g.toGv) ops_eq (de_var g.g.toGv 2 (fl := .s false)) (de_int 1))
 (ds_one (ds_ret (de_tup (da_cons (de_ix g.g.toGv (de_lst (da_cons (de_add (de_len g.g.toGv h.b_len (da_cons (de_var g.g.toGv 0 (fl := .s false)) da_nil)) (de_int 1)) (da_cons (de_neg (de_int 1)) (da_cons (de_bl true) (da_cons (de_str "0") (da_cons de_non (da_cons (de_pow (de_int 10) (de_int 29)) da_nil))))))) (de_mod (de_var g.g.toGv 3 (fl := .s false)) (de_int 6))) (da_cons (de_var g.g.toGv 5 (fl := .s true)) da_nil)))))
 ds_nil)
  (ds_cons (ds_if (F := [.s false, .s false, .s false, .s false, .s true, .s true]) (F1 := [.s false, .s false, .s false, .s false, .s true, .s true]) (Fo := [.s false, .s false, .s false, .s false, .s true, .s true]) (dt_cmp (opr_eqG g.g.toGv) ops_eq (de_var g.g.toGv 2 (fl := .s false)) (de_int 2))
 (ds_one (ds_ret (de_tup (da_cons (de_var g.g.toGv 4 (fl := .s true)) (da_cons (de_ix g.g.toGv (de_lst (da_cons (de_tup (da_cons (de_neg (de_int 1)) (da_cons (de_int 2) da_nil))) (da_cons (de_tup (da_cons (de_int 2) (da_cons (de_int 4) da_nil))) (da_cons (de_tup (da_cons (de_int 1) (da_cons (de_int 0) da_nil))) (da_cons (de_int 3) (da_cons de_non (da_cons (de_lst (da_cons (de_int 1) (da_cons (de_int 2) da_nil))) (da_cons (de_tup (da_cons (de_int 1) (da_cons (de_neg (de_int 2)) da_nil))) (da_cons (de_tup (da_cons (de_bl true) (da_cons (de_int 1) da_nil))) (da_cons (de_tup (da_cons (de_int 0) (da_cons (de_int 2) da_nil))) da_nil)))))))))) (de_mod (de_var g.g.toGv 3 (fl := .s false)) (de_int 9))) da_nil)))))
 ds_nil)
  (ds_one (ds_ret (de_tup (da_cons (de_fl (de_add (de_var g.g.toGv 1 (fl := .s false)) (de_int 1))) (da_cons (de_var g.g.toGv 5 (fl := .s true)) da_nil)))))))))
def s__law_spoilt : EvS := (sSeq (sAs 2 (eBi oList (aCons (eVar 0) aNil)))
  (sSeq (sAs 3 (eB2 oMod (eVar 1) (eC (.int 7))))
  (sSeq (sIf (tV (eB2 oEq (eVar 3) (eC (.int 5))))
 (sSeq (sWh (tV (eB2 oLt (eBi oLen (aCons (eVar 2) aNil)) (eC (.int 41))))
 (sApp 2 (eTup (aCons (eC (.int 0)) (aCons (eTup (aCons (eC (.int 1)) (aCons (eC (.int 2)) aNil))) aNil)))))
  (sRet (eVar 2)))
 sNil)
  (sSeq (sIf (tO (tV (eB2 oEq (eVar 3) (eC (.int 4)))) (tV (eB2 oEq (eBi oLen (aCons (eVar 2) aNil)) (eC (.int 0)))))
 (sRet (eB2 oIx (eLst (aCons (eC .non) (aCons (eBi oTupl (aCons (eVar 2) aNil)) (aCons (eC (.str "")) (aCons (eC (.int 3)) (aCons (eB2 oAdd (eVar 2) (eLst (aCons (eC .non) aNil))) aNil)))))) (eB2 oMod (eB2 oDiv (eVar 1) (eC (.int 7))) (eC (.int 5)))))
 sNil)
  (sSeq (sAs 4 (eB2 oMod (eB2 oDiv (eVar 1) (eC (.int 7))) (eBi oLen (aCons (eVar 2) aNil))))
  (sSeq (sIf (tAn (tV (eB2 oEq (eVar 3) (eC (.int 6)))) (tV (eB2 oNe (eB2 oIx (eB2 oIx (eVar 2) (eVar 4)) (eC (.int 0))) (eC (.int 0)))))
 (sSeq (sAs 5 (eFl (eB2 oIx (eB2 oIx (eVar 2) (eVar 4)) (eC (.int 0)))))
  (sSeq (sWh (tV (eB2 oNe (eB2 oIx (eB2 oIx (eVar 2) (eB2 oSub (eVar 5) (eC (.int 1)))) (eC (.int 0))) (eC (.int 0))))
 (sAs 5 (eFl (eB2 oIx (eB2 oIx (eVar 2) (eB2 oSub (eVar 5) (eC (.int 1)))) (eC (.int 0))))))
  (sSeq (sSub 2 (eB2 oSub (eVar 5) (eC (.int 1))) (eTup (aCons (eB2 oAdd (eVar 4) (eC (.int 1))) (aCons (eB2 oIx (eB2 oIx (eVar 2) (eB2 oSub (eVar 5) (eC (.int 1)))) (eC (.int 1))) aNil))))
  (sRet (eVar 2)))))
 sNil)
  (sSeq (sSub 2 (eVar 4) (eCall f__law_bad_road (aCons (eVar 2) (aCons (eVar 4) (aCons (eB2 oMod (eVar 3) (eC (.int 4))) (aCons (eB2 oDiv (eVar 1) (eC (.int 300))) aNil))))))
  (sRet (eVar 2)))))))))
def f__law_spoilt : List D → Rs D := runF 4 s__law_spoilt
abbrev n__law_spoilt : List Str := ["_law_roads", "_law_cell", "_law_made", "_law_way", "_law_k", "_law_other"]
theorem d__law_spoilt {G : Gb} (h : Fx G) (c__law_bad_road : Cal G 1 "_law_bad_road" true 4 f__law_bad_road) (X : Cx) (W : WX) (g : Gs G n__law_spoilt (defScope t__law_spoilt) 1 W X) : PSs X (defBody t__law_spoilt) (TSv G ⟨false, W, []⟩ (F0 2 4) [] s__law_spoilt) :=
  (ds_cons (ds_as (F1 := [.s false, .s false, .n, .n, .n, .n]) (f := (.uq false)) g.g.toGv g.fn 2 (de_list g.g h.b_list (da_cons (de_var g.g.toGv 0 (fl := .s false)) da_nil)))
  (ds_cons (ds_as (F1 := [.s false, .s false, .o false, .n, .n, .n]) (f := (.uq true)) g.g.toGv g.fn 3 (de_mod (de_var g.g.toGv 1 (fl := .s false)) (de_int 7)))
  (ds_cons (ds_if (F := [.s false, .s false, .o false, .o true, .n, .n]) (F1 := [.s false, .s false, .o false, .o true, .n, .n]) (Fo := [.s false, .s false, .o false, .o true, .n, .n]) (dt_cmp (opr_eqG g.g.toGv) ops_eq (de_var g.g.toGv 3 (fl := .o true)) (de_int 5))
 (ds_cons (ds_while (F := [.s false, .s false, .o false, .o true, .n, .n]) g.g (dt_cmp op_lt (ops_CI fun i j => decide (i < j)) (de_len g.g.toGv h.b_len (da_cons (de_var g.g.toGv 2 (fl := .o false)) da_nil)) (de_int 41))
 (ds_one (ds_app (F1 := [.s false, .s false, .o false, .o true, .n, .n]) (f := (.uq true)) g.g.toGv 2 (dp0 := false) (dp := false) (de_tup (da_cons (de_int 0) (da_cons (de_tup (da_cons (de_int 1) (da_cons (de_int 2) da_nil))) da_nil))))))
  (ds_one (ds_ret (de_tk g.g.toGv 2 (fl := .o false)))))
 ds_nil)
  (ds_cons (ds_if (F := [.s false, .s false, .o false, .o true, .n, .n]) (F1 := [.s false, .s false, .o false, .o true, .n, .n]) (Fo := [.s false, .s false, .o false, .o true, .n, .n]) (dt_w (dw_or (dt_cmp (opr_eqG g.g.toGv) ops_eq (de_var g.g.toGv 3 (fl := .o true)) (de_int 4)) (dw_or1 (dt_cmp (opr_eqG g.g.toGv) ops_eq (de_len g.g.toGv h.b_len (da_cons (de_var g.g.toGv 2 (fl := .o false)) da_nil)) (de_int 0)))))
 (ds_one (ds_ret (de_ix g.g.toGv (de_lst (da_cons de_non (da_cons (de_tuple g.g h.b_tuple (da_cons (de_var g.g.toGv 2 (fl := .o false)) da_nil)) (da_cons (de_str "") (da_cons (de_int 3) (da_cons (de_add (de_var g.g.toGv 2 (fl := .o false)) (de_lst (da_cons de_non da_nil))) da_nil)))))) (de_mod (de_div (de_var g.g.toGv 1 (fl := .s false)) (de_int 7)) (de_int 5)))))
 ds_nil)
  (ds_cons (ds_as (F1 := [.s false, .s false, .o false, .o true, .n, .n]) (f := (.uq true)) g.g.toGv g.fn 4 (de_mod (de_div (de_var g.g.toGv 1 (fl := .s false)) (de_int 7)) (de_len g.g.toGv h.b_len (da_cons (de_var g.g.toGv 2 (fl := .o false)) da_nil))))
  (ds_cons (ds_if (F := [.s false, .s false, .o false, .o true, .o true, .n]) (F1 := [.s false, .s false, .o false, .o true, .o true, .n]) (Fo := [.s false, .s false, .o false, .o true, .o true, .n]) (dt_w (dw_and (dt_cmp (opr_eqG g.g.toGv) ops_eq (de_var g.g.toGv 3 (fl := .o true)) (de_int 6)) (dw_and1 (dt_cmp (opr_neG g.g.toGv) ops_ne (de_ix g.g.toGv (de_ix g.g.toGv (de_var g.g.toGv 2 (fl := .o false)) (de_var g.g.toGv 4 (fl := .o true))) (de_int 0)) (de_int 0)))))
 (ds_cons (ds_as (F1 := [.s false, .s false, .o false, .o true, .o true, .n]) (f := (.uq true)) g.g.toGv g.fn 5 (de_fl (de_ix g.g.toGv (de_ix g.g.toGv (de_var g.g.toGv 2 (fl := .o false)) (de_var g.g.toGv 4 (fl := .o true))) (de_int 0))))
  (ds_cons (ds_while (F := [.s false, .s false, .o false, .o true, .o true, .o true]) g.g (dt_cmp (opr_neG g.g.toGv) ops_ne (de_ix g.g.toGv (de_ix g.g.toGv (de_var g.g.toGv 2 (fl := .o false)) (de_sub (de_var g.g.toGv 5 (fl := .o true)) (de_int 1))) (de_int 0)) (de_int 0))
 (ds_one (ds_as (F1 := [.s false, .s false, .o false, .o true, .o true, .o true]) (f := (.uq true)) g.g.toGv g.fn 5 (de_fl (de_ix g.g.toGv (de_ix g.g.toGv (de_var g.g.toGv 2 (fl := .o false)) (de_sub (de_var g.g.toGv 5 (fl := .o true)) (de_int 1))) (de_int 0))))))
  (ds_cons (ds_sub (F1 := [.s false, .s false, .o false, .o true, .o true, .o true]) (F2 := [.s false, .s false, .o false, .o true, .o true, .o true]) (f := (.uq false)) g.g.toGv 2 (dp0 := false) (dp := false) (de_tup (da_cons (de_add (de_var g.g.toGv 4 (fl := .o true)) (de_int 1)) (da_cons (de_ix g.g.toGv (de_ix g.g.toGv (de_var g.g.toGv 2 (fl := .o false)) (de_sub (de_var g.g.toGv 5 (fl := .o true)) (de_int 1))) (de_int 1)) da_nil))) (de_sub (de_var g.g.toGv 5 (fl := .o true)) (de_int 1)))
  (ds_one (ds_ret (de_tk g.g.toGv 2 (fl := .o false)))))))
 ds_nil)
  (ds_cons (ds_sub (F1 := [.s false, .s false, .o false, .o true, .o true, .n]) (F2 := [.s false, .s false, .o false, .o true, .o true, .n]) (f := (.uq true)) g.g.toGv 2 (dp0 := false) (dp := false) (de_call g.g c__law_bad_road (da_cons (de_var g.g.toGv 2 (fl := .o false)) (da_cons (de_var g.g.toGv 4 (fl := .o true)) (da_cons (de_mod (de_var g.g.toGv 3 (fl := .o true)) (de_int 4)) (da_cons (de_div (de_var g.g.toGv 1 (fl := .s false)) (de_int 300)) da_nil))))) (de_var g.g.toGv 4 (fl := .o true)))
  (ds_one (ds_ret (de_tk g.g.toGv 2 (fl := .o false)))))))))))
def s_law : EvS := (sSeq (sAs 1 (eCall f__law_roads_by (aCons (eVar 0) (aCons (eC (.int 8)) aNil))))
  (sSeq (sAs 2 (eBi oList (aCons (eVar 1) aNil)))
  (sSeq (sAs 3 (eMkN 0 (.cons (.o .s) .nil) f_Tree___init__ (aCons (eVar 2) aNil)))
  (sSeq (sIf (tO (tV (eB2 oNe (eVar 2) (eVar 1))) (tNt (tV (eCall f__law_tells (aCons (eVar 3) (aCons (eVar 1) aNil))))))
 (sRet (eC (.bl false)))
 sNil)
  (sSeq (sClr 2)
  (sSeq (sAs 4 (eCall f__law_cell_at (aCons (eVar 0) (aCons (eC (.int 4)) aNil))))
  (sSeq (sFor (iT (eTup (aCons (eC (.int 0)) (aCons (eU1 oNeg (eC (.int 1))) (aCons (eB2 oAdd (eBi oLen (aCons (eVar 1) aNil)) (eC (.int 1))) (aCons (eB2 oAdd (eB2 oAdd (eBi oLen (aCons (eVar 1) aNil)) (eC (.int 2))) (eB2 oMod (eVar 4) (eB2 oPow (eC (.int 10)) (eC (.int 29))))) aNil)))))) (set1 5)
 (sIf (tNt (tV (eCall f__law_no_road (aCons (eVar 3) (aCons (eVar 5) aNil)))))
 (sRet (eC (.bl false)))
 sNil))
  (sRet (eAn (eCall f__law_refused (aCons (eCall f__law_spoilt (aCons (eVar 1) (aCons (eCall f__law_cell_at (aCons (eVar 0) (aCons (eC (.int 5)) aNil))) aNil))) aNil)) (eCall f__law_tells (aCons (eVar 3) (aCons (eVar 1) aNil))))))))))))
def f_law : List D → Rs D := runF 5 s_law
abbrev n_law : List Str := ["_law_script", "_law_roads", "_law_handed", "_law_tree", "_law_cell", "_law_k"]
theorem d_law {G : Gb} (h : Fx G) (c__law_roads_by : Cal G 3 "_law_roads_by" true 2 f__law_roads_by) (c_Tree___init__ : MakX G 4 0 (.m (.cons (.o .s) .nil)) 1 f_Tree___init__) (c__law_cell_at : Cal G 1 "_law_cell_at" true 2 f__law_cell_at) (c__law_refused : Cal G 6 "_law_refused" true 1 f__law_refused) (c__law_tells : Cal G 3 "_law_tells" true 2 f__law_tells) (c__law_no_road : Cal G 3 "_law_no_road" true 2 f__law_no_road) (c__law_spoilt : Cal G 2 "_law_spoilt" false 2 f__law_spoilt) (X : Cx) (W : WX) (g : Gs G n_law (defScope t_law) 6 W X) : PSs X (defBody t_law) (TSv G ⟨true, W, []⟩ (F0 1 5) [] s_law) :=
  (ds_cons (ds_as (F1 := [.s false, .n, .n, .n, .n, .n]) (f := (.uq true)) g.g.toGv g.fn 1 (de_call g.g c__law_roads_by (da_cons (de_var g.g.toGv 0 (fl := .s false)) (da_cons (de_int 8) da_nil))))
  (ds_cons (ds_as (F1 := [.s false, .o true, .n, .n, .n, .n]) (f := (.uq true)) g.g.toGv g.fn 2 (de_list g.g h.b_list (da_cons (de_var g.g.toGv 1 (fl := .o true)) da_nil)))
  (ds_cons (ds_as (F1 := [.s false, .o true, .o true, .n, .n, .n]) (f := (.uq true)) g.g.toGv g.fn 3 (de_new (F := [.s false, .o true, .o true, .n, .n, .n]) (F1 := [.s false, .s false, .s false, .n, .n, .n]) (de_mkN (fs := (.cons (.o .s) .nil)) g.g h.k_Tree c_Tree___init__ (da_cons (de_var g.g.toGv 2 (fl := .s false)) da_nil))))
  (ds_cons (ds_if (F := [.s false, .o true, .o true, .o true, .n, .n]) (F1 := [.s false, .o true, .o true, .o true, .n, .n]) (Fo := [.s false, .o true, .o true, .o true, .n, .n]) (dt_w (dw_or (dt_cmp (opr_neG g.g.toGv) ops_ne (de_var g.g.toGv 2 (fl := .o true)) (de_var g.g.toGv 1 (fl := .o true))) (dw_or1 (dt_not (dt_val (de_call g.g c__law_tells (da_cons (de_var g.g.toGv 3 (fl := .o true)) (da_cons (de_var g.g.toGv 1 (fl := .o true)) da_nil))))))))
 (ds_one (ds_ret (de_bl false)))
 ds_nil)
  (ds_cons (ds_clr (dp := true) g.g.toGv 2)
  (ds_cons (ds_as (F1 := [.s false, .o true, .o true, .o true, .n, .n]) (f := (.uq true)) g.g.toGv g.fn 4 (de_call g.g c__law_cell_at (da_cons (de_var g.g.toGv 0 (fl := .s false)) (da_cons (de_int 4) da_nil))))
  (ds_cons (ds_for (F := [.s false, .o true, .o true, .o true, .o true, .n]) (F1 := [.s false, .o true, .o true, .o true, .o true, .n]) (F2 := [.s false, .o true, .o true, .o true, .o true, .s true]) (Fh := [.s false, .o true, .o true, .o true, .o true, .n]) g (di_tup g.g (de_tup (da_cons (de_int 0) (da_cons (de_neg (de_int 1)) (da_cons (de_add (de_len g.g.toGv h.b_len (da_cons (de_var g.g.toGv 1 (fl := .o true)) da_nil)) (de_int 1)) (da_cons (de_add (de_add (de_len g.g.toGv h.b_len (da_cons (de_var g.g.toGv 1 (fl := .o true)) da_nil)) (de_int 2)) (de_mod (de_var g.g.toGv 4 (fl := .o true)) (de_pow (de_int 10) (de_int 29)))) da_nil)))))) (tg_name g.g.toGv g.fn 5)
 (dss_wk (F := [.s false, .o true, .o true, .o true, .o true, .s true]) (F1 := [.s false, .o true, .o true, .o true, .o true, .s true]) (F2 := [.s false, .o true, .o true, .o true, .o true, .n]) (ds_one (ds_if (F := [.s false, .o true, .o true, .o true, .o true, .s true]) (F1 := [.s false, .o true, .o true, .o true, .o true, .s true]) (Fo := [.s false, .o true, .o true, .o true, .o true, .s true]) (dt_not (dt_val (de_call g.g c__law_no_road (da_cons (de_var g.g.toGv 3 (fl := .o true)) (da_cons (de_var g.g.toGv 5 (fl := .s true)) da_nil)))))
 (ds_one (ds_ret (de_bl false)))
 ds_nil))))
  (ds_one (ds_ret (de_pre (F := [.s false, .o true, .o true, .o true, .o true, .n]) (F1 := [.s false, .s true, .o true, .o true, .o true, .n]) (de_and (de_call g.g c__law_refused (da_cons (de_call g.g c__law_spoilt (da_cons (de_var g.g.toGv 1 (fl := .s true)) (da_cons (de_call g.g c__law_cell_at (da_cons (de_var g.g.toGv 0 (fl := .s false)) (da_cons (de_int 5) da_nil))) da_nil))) da_nil)) (de_one (de_call g.g c__law_tells (da_cons (de_var g.g.toGv 3 (fl := .o true)) (da_cons (de_var g.g.toGv 1 (fl := .s true)) da_nil)))))))))))))))
end Lk11
namespace Pi
open PySem PySem.Spec PyProof.Rows L2
section
variable {en : En} {a b ev : EvE} {ea er : En → Rs (List D)} {t u : En → Rs Bool} {s s' : EvS} {i j : Nat} {d : D}
@[simp] theorem runF_ap (m : Nat) (st : EvS) (ds : List D) : runF m st ds = endR (st (ds.map some ++ List.replicate m none)) := rfl
@[simp] theorem endR_nx (e : En) : endR (.ok (.nx e)) = .ok .non := rfl
@[simp] theorem endR_rt (d : D) : endR (.ok (.rt d)) = .ok d := rfl
@[simp] theorem endR_er (e : Er) : endR (.error e) = .error e := rfl
@[simp] theorem sNil_ap : sNil en = .ok (.nx en) := rfl
@[simp] theorem sSeq_ap : sSeq s s' en = bnd (s en) fun fl => match fl with
    | .nx en' => s' en'
    | x => .ok x := rfl
@[simp] theorem sRet_ap : sRet ev en = bnd (ev en) fun d => .ok (.rt d) := rfl
@[simp] theorem sRai_ap (e : Nat) : sRai e en = .error (.raise e) := rfl
@[simp] theorem sEx_ap : sEx ev en = bnd (ev en) fun _ => .ok (.nx en) := rfl
@[simp] theorem sAs_ap : sAs i ev en = bnd (ev en) fun d => .ok (.nx (en.set i (some d))) := rfl
@[simp] theorem sPar_ap : sPar i j a b en = bnd (a en) fun x => bnd (b en) fun y => .ok (.nx ((en.set i (some x)).set j (some y))) := rfl
@[simp] theorem sIf_ap : sIf t s s' en = bnd (t en) fun c => if c = true then s en else s' en := by
  unfold sIf
  cases t en with
  | error e => rfl
  | ok c => cases c <;> rfl
@[simp] theorem eVar_0 (d : D) (r : En) : eVar 0 (some d :: r) = .ok d := rfl
@[simp] theorem eVar_s (n : Nat) (o : Option D) (r : En) : eVar (n + 1) (o :: r) = eVar n r := rfl
@[simp] theorem eB2_ap (op : D → D → Option D) : eB2 op a b en = bnd (a en) fun x => bnd (b en) fun y => ofO (op x y) := rfl
@[simp] theorem eU1_ap (op : D → Option D) : eU1 op a en = bnd (a en) fun x => ofO (op x) := rfl
@[simp] theorem tV_ap : tV ev en = bnd (ev en) fun d => ofO (asB d) := rfl
@[simp] theorem asB_bl (b : Bool) : asB (.bl b) = some b := rfl
@[simp] theorem tNt_ap : tNt t en = bnd (t en) fun b => .ok (!b) := rfl
@[simp] theorem tAn_ap : tAn t u en = bnd (t en) fun b => if b = true then u en else .ok false := rfl
@[simp] theorem tO_ap : tO t u en = bnd (t en) fun b => if b = true then .ok true else u en := rfl
@[simp] theorem eAn_ap : eAn a b en = bnd (a en) fun d => bnd (ofO (asB d)) fun c => if c = true then b en else .ok (.bl false) := rfl
@[simp] theorem eOr_ap : eOr a b en = bnd (a en) fun d => bnd (ofO (asB d)) fun c => if c = true then .ok (.bl true) else b en := rfl
@[simp] theorem eNt_ap : eNt a en = bnd (a en) fun d => bnd (ofO (asB d)) fun c => .ok (.bl (!c)) := rfl
@[simp] theorem aNil_ap : aNil en = .ok [] := rfl
@[simp] theorem aCons_ap : aCons a er en = bnd (a en) fun d => bnd (er en) fun ds => .ok (d :: ds) := rfl
@[simp] theorem eTup_ap : eTup ea en = bnd (ea en) fun ds => .ok (.tup ds) := rfl
@[simp] theorem eLst_ap : eLst ea en = bnd (ea en) fun ds => .ok (.lst ds) := rfl
@[simp] theorem eBi_ap (op : List D → Option D) : eBi op ea en = bnd (ea en) fun ds => ofO (op ds) := rfl
@[simp] theorem eCall_ap (fn : List D → Rs D) : eCall fn ea en = bnd (ea en) fn := rfl
@[simp] theorem eCallD_ap (fn : List D → Rs D) (dd : D) : eCallD fn dd ea en = bnd (ea en) fun ds => fn (ds ++ [dd]) := rfl
@[simp] theorem eFl_ap : eFl a en = bnd (a en) fun d => if flat d = true then .ok d else .error .stuck := rfl
@[simp] theorem flat_int (i : Int) : flat (.int i) = true := rfl
@[simp] theorem flat_bl (i : Bool) : flat (.bl i) = true := rfl
@[simp] theorem flat_str (i : Str) : flat (.str i) = true := rfl
@[simp] theorem flat_non : flat .non = true := rfl
@[simp] theorem flat_tup (l : List D) : flat (.tup l) = flat.flatL l := by simp [flat]
@[simp] theorem flatL_nil : flat.flatL [] = true := rfl
@[simp] theorem flatL_cons (d : D) (l : List D) : flat.flatL (d :: l) = (flat d && flat.flatL l) := rfl
@[simp] theorem eIsi_ap (u : Ty) : eIsi u a en = bnd (a en) fun d => bnd (ofO (tyD d)) fun t => .ok (.bl (isiB t u)) := rfl
@[simp] theorem tyD_int (i : Int) : tyD (.int i) = some .int := rfl
@[simp] theorem tyD_bl (i : Bool) : tyD (.bl i) = some .bool := rfl
@[simp] theorem tyD_str (i : Str) : tyD (.str i) = some .str := rfl
@[simp] theorem tyD_non : tyD .non = some .non := rfl
@[simp] theorem tyD_tup (l : List D) : tyD (.tup l) = some .tuple := rfl
@[simp] theorem tyD_lst (l : List D) : tyD (.lst l) = some .list := rfl
@[simp] theorem tyD_scr (l : List Int) : tyD (.scr l) = some .list := rfl
@[simp] theorem sTu_ap (is : List Nat) : sTu is ev en = bnd (ev en) fun d => match d with
  | .tup ds => if ds.length = is.length then .ok (.nx (setAll en is ds)) else .error .stuck
  | _ => .error .stuck := rfl
@[simp] theorem setAll_nil : setAll en [] [] = en := rfl
@[simp] theorem setAll_cons (i : Nat) (is : List Nat) (d : D) (ds : List D) : setAll en (i :: is) (d :: ds) = setAll (en.set i (some d)) is ds := rfl
@[simp] theorem sFor_ap (ev : EvI) (set : En → D → Option En) : sFor ev set s en = bnd (ev en) fun ds => evFor set s ds en := rfl
@[simp] theorem set1_ap (i : Nat) (d : D) : set1 i en d = some (en.set i (some d)) := rfl
@[simp] theorem iRn_ap : iRn ea en = bnd (ea en) fun ds => ofO (oRng ds) := rfl
@[simp] theorem iL_ap : iL ev en = bnd (ev en) fun d => ofO (itemsL d) := rfl
@[simp] theorem iT_ap : iT ev en = bnd (ev en) fun d => ofO (itemsT d) := rfl
@[simp] theorem itemsL_lst (l : List D) : itemsL (.lst l) = some l := rfl
@[simp] theorem itemsL_scr (l : List Int) : itemsL (.scr l) = some (l.map .int) := rfl
@[simp] theorem itemsT_tup (l : List D) : itemsT (.tup l) = some l := rfl
@[simp] theorem sApp_ap : sApp i ev en = bnd (getL i en) fun l => bnd (ev en) fun d => if l.length < sizeLine then .ok (.nx (en.set i (some (.lst (l ++ [d]))))) else .error .stuck := rfl
@[simp] theorem getL_0 (l : List D) (r : En) : getL 0 (some (.lst l) :: r) = .ok l := rfl
@[simp] theorem getL_s (n : Nat) (o : Option D) (r : En) : getL (n + 1) (o :: r) = getL n r := rfl
end
@[simp] theorem oAdd_int (i j : Int) : oAdd (.int i) (.int j) = some (.int (i + j)) := rfl
@[simp] theorem oSub_int (i j : Int) : oSub (.int i) (.int j) = some (.int (i - j)) := rfl
theorem oMul_int {i j : Int} (h : mulOk i j = true) : oMul (.int i) (.int j) = some (.int (i * j)) := by
  show (if mulOk i j = true then some (D.int (i * j)) else none) = _
  rw [if_pos h]
theorem oDiv_int {i j : Int} (h : divOk i j = true) : oDiv (.int i) (.int j) = some (.int (i.fdiv j)) := by
  show (if divOk i j = true then some (i.fdiv j) else none).map D.int = _
  rw [if_pos h] <;> rfl
theorem oMod_int {i j : Int} (h : j ≠ 0) : oMod (.int i) (.int j) = some (.int (i.fmod j)) := by
  show (if j = 0 then none else some (i.fmod j)).map D.int = _
  rw [if_neg h] <;> rfl
@[simp] theorem oCI_int (p : Int → Int → Bool) (i j : Int) : oCI p (.int i) (.int j) = some (.bl (p i j)) := rfl
@[simp] theorem oEq_int (i j : Int) : oEq (.int i) (.int j) = some (.bl (decide (i = j))) := by
  have : PyData.eqv (.int i) (.int j) = decide (i = j) := by simp [PyData.eqv]; by_cases h : i = j <;> simp [h]
  simp [oEq, pl, toP, this]
@[simp] theorem oNe_int (i j : Int) : oNe (.int i) (.int j) = some (.bl (!decide (i = j))) := by
  have : PyData.eqv (.int i) (.int j) = decide (i = j) := by simp [PyData.eqv]; by_cases h : i = j <;> simp [h]
  simp [oNe, pl, toP, this]
@[simp] theorem oLen_scr (l : List Int) : oLen [.scr l] = some (.int l.length) := rfl
@[simp] theorem oLen_lst (l : List D) : oLen [.lst l] = some (.int l.length) := rfl
@[simp] theorem oLen_tup (l : List D) : oLen [.tup l] = some (.int l.length) := rfl
@[simp] theorem oAbs_int (i : Int) : oAbs [.int i] = some (.int (i.natAbs : Int)) := by
  show some (D.int (if i < 0 then -i else i)) = _
  split
  · rw [show -i = (i.natAbs : Int) by omega]
  · rw [show i = (i.natAbs : Int) by omega]; rfl
@[simp] theorem oInt_int (i : Int) : oInt [.int i] = some (.int i) := rfl
@[simp] theorem oInt_bl (b : Bool) : oInt [.bl b] = some (.int (if b then 1 else 0)) := rfl
@[simp] theorem oNeg_int (i : Int) : oNeg (.int i) = some (.int (-i)) := rfl
theorem log2_lt {n m : Nat} (h : n < 2 ^ m) (hm : 0 < m) : n.log2 < m := by
  by_cases hn : n = 0
  · subst hn; simpa using hm
  · exact (Nat.log2_lt hn).mpr h
theorem mulOk_of {i j : Int} {m n : Nat} (hi : i.natAbs < 2 ^ m) (hj : j.natAbs < 2 ^ n) (hm : 0 < m) (hn : 0 < n) (h : m + n < 100000000) : mulOk i j = true := by
  have h1 := log2_lt hi hm
  have h2 := log2_lt hj hn
  unfold mulOk
  simp only [Bool.or_eq_true, decide_eq_true_eq]
  exact .inr (by omega)
theorem mulOk_l {i j : Int} (hi : i.natAbs < 18446744073709551616) : mulOk i j = true := by
  unfold mulOk
  simp [hi]
theorem mulOk_r {i j : Int} (hi : j.natAbs < 18446744073709551616) : mulOk i j = true := by
  unfold mulOk
  simp [hi]
theorem divOk_of {i j : Int} {m : Nat} (h0 : j ≠ 0) (hj : j.natAbs < 2 ^ m) (hm : 0 < m) (h : m ≤ 9000) : divOk i j = true := by
  have h2 := log2_lt hj hm
  unfold divOk
  simp [h0]
  exact .inl (by omega)
@[simp] theorem oIx_20 (a b : D) : oIx (.tup [a, b]) (.int 0) = some a := rfl
@[simp] theorem oIx_21 (a b : D) : oIx (.tup [a, b]) (.int 1) = some b := rfl
theorem atI_nat {α : Type} {l : List α} {n : Nat} (h : n < l.length) : L2.atI l (n : Int) = some l[n] := by
  unfold L2.atI ixN
  rw [if_pos (by omega), if_pos (by omega)]
  simp [h]
theorem oIx_scr {l : List Int} {n : Nat} (h : n < l.length) : oIx (.scr l) (.int n) = some (.int l[n]) := by
  show (L2.atI l (n : Int)).map D.int = _
  rw [atI_nat h] <;> rfl
theorem oIx_lst {l : List D} {n : Nat} (h : n < l.length) : oIx (.lst l) (.int n) = some l[n] := atI_nat h
theorem fmod_lt {a b : Int} (h : b ≠ 0) : (a.fmod b).natAbs < b.natAbs := by
  rcases Int.lt_or_lt_of_ne h with h | h
  · have h0 : (-a).fmod (-b) = -(a.fmod b) := Int.neg_fmod_neg a b
    have h1 := Int.fmod_lt_of_pos (-a) (show 0 < -b by omega)
    have h2 := Int.fmod_nonneg_of_pos (-a) (show 0 < -b by omega)
    omega
  · have h1 := Int.fmod_lt_of_pos a h
    have h2 := Int.fmod_nonneg_of_pos a h
    omega
theorem gcd_fmod (a b : Int) : Int.gcd b (a.fmod b) = Int.gcd a b := by
  have e : a.fmod b = a - b * a.fdiv b := Int.fmod_def a b
  apply Nat.dvd_antisymm
  · refine Int.dvd_gcd ?_ (Int.gcd_dvd_left ..)
    have h1 : (Int.gcd b (a.fmod b) : Int) ∣ b := Int.gcd_dvd_left ..
    have h2 : (Int.gcd b (a.fmod b) : Int) ∣ a.fmod b := Int.gcd_dvd_right ..
    have h3 := Int.dvd_add h2 (Int.dvd_mul_of_dvd_left (c := a.fdiv b) h1)
    have h4 : a.fmod b + b * a.fdiv b = a := by rw [e]; omega
    rw [h4] at h3
    exact h3
  · refine Int.dvd_gcd (Int.gcd_dvd_right ..) ?_
    have h1 : (Int.gcd a b : Int) ∣ b := Int.gcd_dvd_right ..
    have h2 : (Int.gcd a b : Int) ∣ a := Int.gcd_dvd_left ..
    rw [e]
    exact Int.dvd_sub h2 (Int.dvd_mul_of_dvd_left h1)
end Pi
noncomputable section
namespace Co
open PySem PySem.Spec PyProof.Rows L2 Pi
def s_cell : EvS := (sSeq (sIf (tV (eB2 oLt (eVar 1) (eBi oLen (aCons (eVar 0) aNil))))
    (sRet (eFl (eB2 oIx (eVar 0) (eVar 1))))
    sNil)
  (sRet (eB2 oAdd (eFl (eB2 oMul (eC (.int 2)) (eVar 1))) (eC (.int 1)))))
def f_cell : List D → Rs D := runF 0 s_cell
def cellAt (ns : List Int) (k : Nat) : Int := if h : k < ns.length then ns[k] else 2 * k + 1
theorem cell_eq (ns : List Int) (k : Nat) : f_cell [.scr ns, .int k] = .ok (.int (cellAt ns k)) := by
  unfold cellAt
  by_cases h : k < ns.length
  · have h' : (k : Int) < (ns.length : Int) := by omega
    simp [f_cell, s_cell, h, oIx_scr h]
  · have m : mulOk 2 (k : Int) = true := mulOk_l (by decide)
    simp [f_cell, s_cell, h, oMul_int m]
def s_whole : EvS := (sRet (eAn (eIsi .int (eVar 0)) (eNt (eIsi .bool (eVar 0)))))
def f_whole : List D → Rs D := runF 0 s_whole
theorem whole_int (i : Int) : f_whole [.int i] = .ok (.bl true) := by simp [f_whole, s_whole, isiB]
def s_div : EvS := (sSeq (sWh (tV (eB2 oNe (eVar 1) (eC (.int 0))))
    (sSeq (sAs 2 (eB2 oMod (eVar 0) (eVar 1)))
    (sSeq (sAs 0 (eFl (eVar 1)))
    (sAs 1 (eFl (eVar 2))))))
  (sRet (eBi oAbs (aCons (eVar 0) aNil))))
def f_div : List D → Rs D := runF 1 s_div
theorem div_loop : ∀ (n : Nat) (a b : Int) (o : Option D), b.natAbs ≤ n → ∃ (g : Int) (o' : Option D), g.natAbs = Int.gcd a b ∧ sWh (tV (eB2 oNe (eVar 1) (eC (.int 0)))) (sSeq (sAs 2 (eB2 oMod (eVar 0) (eVar 1)))
    (sSeq (sAs 0 (eFl (eVar 1)))
    (sAs 1 (eFl (eVar 2))))) [some (.int a), some (.int b), o] = .ok (.nx [some (.int g), some (.int 0), o'])
  | n, a, b, o, h => by
    rw [sWh_eq]
    by_cases hb : b = 0
    · subst hb
      exact ⟨a, o, by simp, by simp⟩
    · have h1 := fmod_lt (a := a) hb
      cases n with
      | zero => omega
      | succ n =>
        obtain ⟨g, o', e1, e2⟩ := div_loop n b (a.fmod b) (some (.int (a.fmod b))) (by omega)
        rw [gcd_fmod] at e1
        exact ⟨g, o', e1, by simp [hb, oMod_int hb, e2]⟩
theorem div_eq (a b : Int) : f_div [.int a, .int b] = .ok (.int (Int.gcd a b)) := by
  obtain ⟨g, o', e1, e2⟩ := div_loop _ a b none (Nat.le_refl _)
  simp [f_div, s_div, e2, e1]
def prt (t b : Int) : Int := if b < 0 then -(Int.gcd t b : Int) else (Int.gcd t b : Int)
def nu (t b : Int) : Int := t.fdiv (prt t b)
def de (t b : Int) : Int := b.fdiv (prt t b)
def fr (t b : Int) : D := .tup [.int (nu t b), .int (de t b)]
section
variable {t b : Int}
theorem gcd_ne (hb : b ≠ 0) : 0 < Int.gcd t b := Nat.pos_of_ne_zero fun e => hb (Int.eq_zero_of_gcd_eq_zero_right e)
theorem prt_abs : (prt t b).natAbs = Int.gcd t b := by
  unfold prt
  split <;> omega
theorem prt_ne (hb : b ≠ 0) : prt t b ≠ 0 := by
  have h1 := gcd_ne (t := t) hb
  have h2 := prt_abs (t := t) (b := b)
  omega
theorem prt_dvd_t : prt t b ∣ t := Int.natAbs_dvd.mp (by rw [prt_abs]; exact Int.gcd_dvd_left ..)
theorem prt_dvd_b : prt t b ∣ b := Int.natAbs_dvd.mp (by rw [prt_abs]; exact Int.gcd_dvd_right ..)
theorem nu_mul (hb : b ≠ 0) : t = prt t b * nu t b := by
  obtain ⟨p, hp⟩ := prt_dvd_t (t := t) (b := b)
  have : nu t b = p := by
    unfold nu
    conv => lhs; arg 1; rw [hp]
    exact Int.mul_fdiv_cancel_left p (prt_ne hb)
  rw [this]
  exact hp
theorem de_mul (hb : b ≠ 0) : b = prt t b * de t b := by
  obtain ⟨p, hp⟩ := prt_dvd_b (t := t) (b := b)
  have : de t b = p := by
    unfold de
    conv => lhs; arg 1; rw [hp]
    exact Int.mul_fdiv_cancel_left p (prt_ne hb)
  rw [this]
  exact hp
theorem prt_le (hb : b ≠ 0) : (prt t b).natAbs ≤ b.natAbs := by
  rw [prt_abs]
  exact Nat.le_of_dvd (by omega) (Nat.gcd_dvd_right t.natAbs b.natAbs)
theorem de_pos (hb : b ≠ 0) : 0 < de t b := by
  have h1 := de_mul (t := t) hb
  have h0 := gcd_ne (t := t) hb
  have h2 : 0 < prt t b * b := by
    unfold prt
    split
    · rename_i h
      exact Int.mul_pos_of_neg_of_neg (by omega) h
    · exact Int.mul_pos (by omega) (by omega)
  have h3 : 0 < prt t b * prt t b := by
    rcases Int.lt_or_lt_of_ne (prt_ne (t := t) hb) with z | z
    · exact Int.mul_pos_of_neg_of_neg z z
    · exact Int.mul_pos z z
  have h4 : prt t b * b = de t b * (prt t b * prt t b) := by
    conv => lhs; arg 2; rw [h1]
    rw [← Int.mul_assoc, Int.mul_comm]
  rw [h4] at h2
  exact Int.pos_of_mul_pos_left h2 h3
theorem cop (hb : b ≠ 0) : Int.gcd (nu t b) (de t b) = 1 := by
  have h2 : Int.gcd (prt t b * nu t b) (prt t b * de t b) = (prt t b).natAbs * Int.gcd (nu t b) (de t b) := Int.gcd_mul_left ..
  rw [← nu_mul hb, ← de_mul hb, prt_abs] at h2
  exact (Nat.eq_of_mul_eq_mul_left (gcd_ne (t := t) hb) (by omega)).symm
theorem across (hb : b ≠ 0) : nu t b * b = t * de t b := by
  have h1 := nu_mul (t := t) hb
  have h2 := de_mul (t := t) hb
  generalize prt t b = c at h1 h2
  generalize nu t b = p at h1 h2
  generalize de t b = q at h1 h2
  rw [h1, h2, Int.mul_comm c p, Int.mul_assoc]
theorem nu_le (hb : b ≠ 0) : (nu t b).natAbs ≤ t.natAbs := by
  have h1 := nu_mul (t := t) hb
  have h2 := prt_ne (t := t) hb
  have h3 : t.natAbs = (prt t b).natAbs * (nu t b).natAbs := by rw [← Int.natAbs_mul, ← h1]
  rw [h3]
  exact Nat.le_mul_of_pos_left _ (by omega)
theorem de_le (hb : b ≠ 0) : (de t b).natAbs ≤ b.natAbs := by
  have h1 := de_mul (t := t) hb
  have h2 := prt_ne (t := t) hb
  have h3 : b.natAbs = (prt t b).natAbs * (de t b).natAbs := by rw [← Int.natAbs_mul, ← h1]
  rw [h3]
  exact Nat.le_mul_of_pos_left _ (by omega)
theorem prt_ok (hb : b ≠ 0) (h : b.natAbs < 2 ^ 4000) (i : Int) : divOk i (prt t b) = true := divOk_of (m := 4000) (prt_ne hb) (Nat.lt_of_le_of_lt (prt_le hb) h) (by decide) (by decide)
end
def B (n : Nat) (i : Int) : Prop := i.natAbs < 2 ^ n
theorem B.mul {m n : Nat} {i j : Int} (h : B m i) (k : B n j) : B (m + n) (i * j) := by
  unfold B at *
  rw [Int.natAbs_mul, Nat.pow_add]
  exact Nat.mul_lt_mul'' h k
theorem B.mono {m n : Nat} {i : Int} (h : B m i) (k : m ≤ n) : B n i := Nat.lt_of_lt_of_le h (Nat.pow_le_pow_right (by decide) k)
theorem B.add {n : Nat} {i j : Int} (h : B n i) (k : B n j) : B (n + 1) (i + j) := by
  unfold B at *
  rw [Nat.pow_succ]
  have := Int.natAbs_add_le i j
  omega
theorem B.sub {n : Nat} {i j : Int} (h : B n i) (k : B n j) : B (n + 1) (i - j) := by
  unfold B at *
  rw [Nat.pow_succ]
  have := Int.natAbs_sub_le i j
  omega
theorem B.le {n : Nat} {i j : Int} (h : B n i) (k : j.natAbs ≤ i.natAbs) : B n j := Nat.lt_of_le_of_lt k h
theorem B.ok {m n : Nat} {i j : Int} (h : B m i) (k : B n j) (hm : m < 40000000 := by decide) (hn : n < 40000000 := by decide) : mulOk i j = true :=
  mulOk_of (m := m + 1) (n := n + 1) (h.mono (by omega)) (k.mono (by omega)) (by omega) (by omega) (by omega)
end Co
end
noncomputable section
namespace Co
open PySem PySem.Spec PyProof.Rows L2 Pi
def s_tmixed : EvS := (sRet (eB2 oAdd (eB2 oMul (eB2 oAdd (eB2 oMod (eVar 0) (eB2 oPow (eC (.int 10)) (eC (.int 60)))) (eFl (eB2 oMul (eVar 1) (eVar 1)))) (eC (.int 6364136223846793013))) (eB2 oMul (eFl (eB2 oAdd (eVar 1) (eC (.int 1)))) (eC (.int 1442695040888963407)))))
def f_tmixed : List D → Rs D := runF 0 s_tmixed
def s_tnumbers : EvS := (sSeq (sAs 3 (eLst aNil))
  (sSeq (sAs 4 (eFl (eVar 0)))
  (sSeq (sFor (iRn (aCons (eVar 1) aNil)) (set1 5)
    (sIf (tV (eB2 oLt (eVar 0) (eB2 oPow (eC (.int 10)) (eC (.int 18)))))
    (sApp 3 (eB2 oMod (eB2 oDiv (eCall f_tmixed (aCons (eVar 0) (aCons (eVar 5) aNil))) (eC (.int 97))) (eVar 2)))
    (sSeq (sApp 3 (eB2 oMod (eVar 4) (eVar 2)))
  (sAs 4 (eB2 oDiv (eVar 4) (eVar 2))))))
  (sRet (eVar 3)))))
def f_tnumbers : List D → Rs D := runF 3 s_tnumbers
def s_tlow : EvS := (sSeq (sAs 2 (eBi oAbs (aCons (eVar 0) aNil)))
  (sSeq (sAs 3 (eFl (eVar 1)))
  (sSeq (sWh (tV (eB2 oGt (eVar 3) (eC (.int 0))))
    (sPar 2 3 (eFl (eVar 3)) (eB2 oMod (eVar 2) (eVar 3))))
  (sRet (eTup (aCons (eB2 oDiv (eVar 0) (eVar 2)) (aCons (eB2 oDiv (eVar 1) (eVar 2)) aNil)))))))
def f_tlow : List D → Rs D := runF 2 s_tlow
def s_tprice_by : EvS := (sSeq (sIf (tV (eVar 1))
    (sRet (eCall f_tlow (aCons (eB2 oMod (eVar 0) (eB2 oPow (eC (.int 10)) (eC (.int 30)))) (aCons (eB2 oAdd (eC (.int 1)) (eB2 oMod (eB2 oDiv (eVar 0) (eB2 oPow (eC (.int 10)) (eC (.int 30)))) (eB2 oSub (eB2 oPow (eC (.int 10)) (eC (.int 30))) (eC (.int 1))))) aNil))))
    sNil)
  (sRet (eCall f_tlow (aCons (eB2 oMod (eVar 0) (eC (.int 13))) (aCons (eB2 oAdd (eC (.int 1)) (eB2 oMod (eB2 oDiv (eVar 0) (eC (.int 13))) (eC (.int 6)))) aNil)))))
def f_tprice_by : List D → Rs D := runF 0 s_tprice_by
def s_troads_by : EvS := (sSeq (sAs 2 (eCall f_cell (aCons (eVar 0) (aCons (eC (.int 0)) aNil))))
  (sSeq (sAs 3 (eB2 oMod (eVar 2) (eFl (eB2 oAdd (eVar 1) (eC (.int 1))))))
  (sSeq (sAs 4 (eB2 oEq (eB2 oMod (eB2 oDiv (eVar 2) (eC (.int 50))) (eC (.int 6))) (eC (.int 1))))
  (sSeq (sIf (tV (eVar 4))
    (sAs 3 (eB2 oMod (eVar 3) (eC (.int 5))))
    (sIf (tV (eB2 oEq (eB2 oMod (eB2 oDiv (eVar 2) (eC (.int 50))) (eC (.int 6))) (eC (.int 2))))
    (sAs 3 (eB2 oMod (eB2 oDiv (eVar 2) (eC (.int 300))) (eC (.int 21))))
    sNil))
  (sSeq (sAs 5 (eRgL2 (eC (.int 1)) (eB2 oAdd (eVar 3) (eC (.int 1)))))
  (sSeq (sFor (iEn (aCons (eCall f_tnumbers (aCons (eCall f_cell (aCons (eVar 0) (aCons (eC (.int 1)) aNil))) (aCons (eVar 3) (aCons (eC (.int 41)) aNil)))) aNil)) (setT [6, 7])
    (sSeq (sAs 8 (eB2 oMod (eVar 7) (eB2 oAdd (eVar 6) (eC (.int 1)))))
  (sSw 5 (eTup (aCons (eB2 oIx (eVar 5) (eVar 8)) (aCons (eB2 oIx (eVar 5) (eVar 6)) aNil))) (eVar 6) (eVar 8))))
  (sSeq (sAs 9 (eLc [6] (iRn (aCons (eVar 3) aNil)) (set1 6) (fun _ => .ok true) (eTup (aCons (eC (.int 0)) (aCons (eTup (aCons (eC (.int 0)) (aCons (eC (.int 1)) aNil))) aNil)))))
  (sSeq (sAs 10 (eCall f_tnumbers (aCons (eCall f_cell (aCons (eVar 0) (aCons (eC (.int 3)) aNil))) (aCons (eVar 3) (aCons (eB2 oIx (eLst (aCons (eC (.int 78)) (aCons (eB2 oPow (eC (.int 10)) (eC (.int 60))) aNil))) (eBi oInt (aCons (eVar 4) aNil))) aNil)))))
  (sSeq (sFor (iEn (aCons (eCall f_tnumbers (aCons (eCall f_cell (aCons (eVar 0) (aCons (eC (.int 2)) aNil))) (aCons (eVar 3) (aCons (eC (.int 1681)) aNil)))) aNil)) (setT [6, 7])
    (sSeq (sAs 11 (eFl (eB2 oIx (eB2 oAdd (eLst (aCons (eC (.int 0)) aNil)) (eVar 5)) (eB2 oSub (eVar 6) (eB2 oMod (eVar 7) (eBi oMin (aCons (eB2 oAdd (eVar 6) (eC (.int 1))) (aCons (eB2 oAdd (eC (.int 1)) (eB2 oMod (eB2 oDiv (eVar 7) (eC (.int 41))) (eC (.int 41)))) aNil))))))))
  (sSub 9 (eB2 oSub (eB2 oIx (eVar 5) (eVar 6)) (eC (.int 1))) (eTup (aCons (eVar 11) (aCons (eCall f_tprice_by (aCons (eB2 oIx (eVar 10) (eVar 6)) (aCons (eVar 4) aNil))) aNil))))))
  (sRet (eVar 9)))))))))))
def f_troads_by : List D → Rs D := runF 10 s_troads_by
theorem tmixed_eq {c : Int} {k : Nat} (hk : k < 1000000) : ∃ r : Int, f_tmixed [.int c, .int k] = .ok (.int r) := by
  have p60 : oPow (.int 10) (.int 60) = some (.int 1000000000000000000000000000000000000000000000000000000000000) := rfl
  have m1 : mulOk (k : Int) (k : Int) = true := mulOk_l (by omega)
  have m2 : ∀ i, mulOk i 6364136223846793013 = true := fun i => mulOk_r (by decide)
  have m3 : ∀ i, mulOk i 1442695040888963407 = true := fun i => mulOk_r (by decide)
  exact ⟨_, by simp [f_tmixed, s_tmixed, p60, oMod_int, oMul_int m1, oMul_int (m2 _), oMul_int (m3 _)]; rfl⟩
def Bel (most : Int) (l : List Int) : Prop := ∀ x, x ∈ l → 0 ≤ x ∧ x < most
theorem tnumbers_loop {c most : Int} (h0 : 0 < most) (hm : B 2000 most) (m : D) : ∀ (ks : List Nat) (acc : List Int) (rest : Int) (o : Option D), (∀ k, k ∈ ks → k < 1000000) → acc.length + ks.length < 16777216 →
    ∃ (l : List Int) (rest' : Int) (o' : Option D), l.length = ks.length ∧ Bel most l ∧ evFor (set1 5) (sIf (tV (eB2 oLt (eVar 0) (eB2 oPow (eC (.int 10)) (eC (.int 18)))))
      (sApp 3 (eB2 oMod (eB2 oDiv (eCall f_tmixed (aCons (eVar 0) (aCons (eVar 5) aNil))) (eC (.int 97))) (eVar 2)))
      (sSeq (sApp 3 (eB2 oMod (eVar 4) (eVar 2)))
      (sAs 4 (eB2 oDiv (eVar 4) (eVar 2))))) (ks.map fun k : Nat => D.int k) [some (.int c), some m, some (.int most), some (.lst (acc.map .int)), some (.int rest), o] =
      .ok (.nx [some (.int c), some m, some (.int most), some (.lst ((acc ++ l).map .int)), some (.int rest'), o'])
  | [], acc, rest, o, _, _ => ⟨[], rest, o, rfl, (fun x h => (nomatch h)), by simp [evFor]⟩
  | k :: ks, acc, rest, o, hk, hl => by
    have p18 : oPow (.int 10) (.int 18) = some (.int 1000000000000000000) := rfl
    have hne : most ≠ 0 := by omega
    have sz : acc.length < sizeLine := by rw [sizeLine_eq]; simp at hl; omega
    have md : ∀ x : Int, 0 ≤ x.fmod most ∧ x.fmod most < most := fun x => ⟨Int.fmod_nonneg_of_pos x h0, Int.fmod_lt_of_pos x h0⟩
    obtain ⟨r, er⟩ := tmixed_eq (c := c) (hk k List.mem_cons_self)
    by_cases hc : c < 1000000000000000000
    · have hd : oDiv (.int r) (.int 97) = some (.int (r.fdiv 97)) := oDiv_int (divOk_of (m := 7) (by decide) (by decide) (by decide) (by decide))
      obtain ⟨l, rest', o', h1, h2, h3⟩ := tnumbers_loop (c := c) h0 hm m ks (acc ++ [(r.fdiv 97).fmod most]) rest (some (.int k)) (fun x hx => hk x (List.mem_cons_of_mem _ hx)) (by simp at hl ⊢; omega)
      refine ⟨(r.fdiv 97).fmod most :: l, rest', o', by simp [h1], fun x hx => ?_, ?_⟩
      · rcases List.mem_cons.mp hx with e | hx
        · rw [e]; exact md _
        · exact h2 x hx
      · simp only [List.map_append, List.map_cons, List.map_nil, List.append_assoc, List.cons_append, List.nil_append] at h3
        simp [evFor, p18, hc, er, hd, oMod_int hne, sz, h3]
    · have hd : oDiv (.int rest) (.int most) = some (.int (rest.fdiv most)) := oDiv_int (divOk_of (m := 2000) hne hm (by decide) (by decide))
      obtain ⟨l, rest', o', h1, h2, h3⟩ := tnumbers_loop (c := c) h0 hm m ks (acc ++ [rest.fmod most]) (rest.fdiv most) (some (.int k)) (fun x hx => hk x (List.mem_cons_of_mem _ hx)) (by simp at hl ⊢; omega)
      refine ⟨rest.fmod most :: l, rest', o', by simp [h1], fun x hx => ?_, ?_⟩
      · rcases List.mem_cons.mp hx with e | hx
        · rw [e]; exact md _
        · exact h2 x hx
      · simp only [List.map_append, List.map_cons, List.map_nil, List.append_assoc, List.cons_append, List.nil_append] at h3
        simp [evFor, p18, hc, hd, oMod_int hne, sz, h3]
theorem irng_nat (n : Nat) : irng 0 n = (List.range n).map fun k : Nat => D.int k := by
  unfold irng
  simp
theorem bd62_nat {m : Nat} (h : m < 1000000) : bd62 (m : Int) = true := by
  unfold bd62
  rw [Bool.and_eq_true, decide_eq_true_eq, decide_eq_true_eq]
  have e : (2 : Int) ^ 62 = 4611686018427387904 := by decide
  rw [e]
  omega
theorem rng_len {m : Nat} (h : m < 1000000) : ([] : List Int).length + (List.range m).length < 16777216 := by
  rw [List.length_range, List.length_nil]
  omega
theorem rng_lt {m : Nat} (h : m < 1000000) : ∀ k, k ∈ List.range m → k < 1000000 := fun k hk => Nat.lt_trans (List.mem_range.mp hk) h
theorem oRng_nat {m : Nat} (h : m < 1000000) : oRng [.int (m : Int)] = some ((List.range m).map fun k : Nat => D.int k) := by
  rw [← irng_nat m]
  show (if bd62 (m : Int) = true then some (irng 0 (m : Int).toNat) else none) = _
  rw [if_pos (bd62_nat h), Int.toNat_natCast]
theorem tnumbers_eq {c most : Int} (h0 : 0 < most) (hm : B 2000 most) {m : Nat} (hmm : m < 1000000) : ∃ l : List Int, l.length = m ∧ Bel most l ∧ f_tnumbers [.int c, .int m, .int most] = .ok (.lst (l.map .int)) := by
  obtain ⟨l, rest', o', h1, h2, h3⟩ := tnumbers_loop (c := c) h0 hm (.int m) (List.range m) [] c none (rng_lt hmm) (rng_len hmm)
  refine ⟨l, by rw [h1, List.length_range], h2, ?_⟩
  simp only [List.map_nil, List.nil_append] at h3
  have h4 := oRng_nat hmm
  generalize (List.range m).map (fun k : Nat => D.int k) = L at h3 h4
  generalize (m : Int) = M at h3 h4 ⊢
  unfold f_tnumbers
  rw [runF_ap]
  show endR (s_tnumbers [some (.int c), some (.int M), some (.int most), none, none, none]) = _
  unfold s_tnumbers
  rw [sSeq_ap, sAs_ap, eLst_ap, aNil_ap, bnd_ok, bnd_ok, bnd_ok]
  show endR (sSeq _ _ [some (.int c), some (.int M), some (.int most), some (.lst []), none, none]) = _
  rw [sSeq_ap, sAs_ap, eFl_ap, eVar_0, bnd_ok, if_pos (flat_int c), bnd_ok, bnd_ok]
  show endR (sSeq _ _ [some (.int c), some (.int M), some (.int most), some (.lst []), some (.int c), none]) = _
  rw [sSeq_ap, sFor_ap, iRn_ap, aCons_ap, eVar_s, eVar_0, bnd_ok, aNil_ap, bnd_ok, bnd_ok, h4, ofO_some, bnd_ok, h3, bnd_ok]
  rfl
theorem tlow_loop (t b : D) : ∀ (n : Nat) (x y : Int), y.natAbs ≤ n → 0 ≤ x → 0 ≤ y → sWh (tV (eB2 oGt (eVar 3) (eC (.int 0))))
    (sPar 2 3 (eFl (eVar 3)) (eB2 oMod (eVar 2) (eVar 3))) [some t, some b, some (.int x), some (.int y)] = .ok (.nx [some t, some b, some (.int (Int.gcd x y)), some (.int 0)])
  | n, x, y, h, hx, hy => by
    rw [sWh_eq]
    by_cases hb : y = 0
    · subst hb
      have : (x.natAbs : Int) = x := by omega
      simp [this]
    · have h1 := fmod_lt (a := x) hb
      have h2 := Int.fmod_nonneg_of_pos x (b := y) (by omega)
      have hp : 0 < y := by omega
      cases n with
      | zero => omega
      | succ n =>
        have ih := tlow_loop t b n y (x.fmod y) (by omega) hy h2
        rw [gcd_fmod] at ih
        simp [hp, oMod_int hb, ih]
theorem tlow_eq {t b : Int} (ht : 0 ≤ t) (hb : 0 < b) (h : b.natAbs < 2 ^ 4000) : f_tlow [.int t, .int b] = .ok (fr t b) := by
  have h1 := prt_ok (t := t) (by omega) h t
  have h2 := prt_ok (t := t) (by omega) h b
  have hl := tlow_loop (.int t) (.int b) _ t b (Nat.le_refl _) ht (by omega)
  have ha : ((t.natAbs : Nat) : Int) = t := by omega
  unfold fr nu de
  unfold prt at h1 h2 ⊢
  rw [if_neg (by omega)] at h1 h2 ⊢
  simp [f_tlow, s_tlow, ha, hl, oDiv_int h1, oDiv_int h2]
structure Prc (p q : Int) : Prop where
  p0 : 0 ≤ p
  q1 : 0 < q
  cop : Int.gcd p q = 1
  bp : B 210 p
  bq : B 210 q
theorem fr_prc {t b : Int} (ht : 0 ≤ t) (hb : 0 < b) (h1 : B 210 t) (h2 : B 210 b) : Prc (nu t b) (de t b) := by
  have hb0 : b ≠ 0 := by omega
  refine ⟨?_, de_pos hb0, cop hb0, h1.le (nu_le hb0), h2.le (de_le hb0)⟩
  have e := across (t := t) hb0
  have d := de_pos (t := t) hb0
  rcases Int.lt_or_le (nu t b) 0 with z | z
  · have : nu t b * b < 0 := Int.mul_neg_of_neg_of_pos z hb
    have : 0 ≤ t * de t b := Int.mul_nonneg ht (by omega)
    omega
  · exact z
theorem tprice_eq (x : Int) (hx : 0 ≤ x) (hB : B 205 x) (wide : Bool) : ∃ p q : Int, Prc p q ∧ f_tprice_by [.int x, .bl wide] = .ok (.tup [.int p, .int q]) := by
  have p30 : oPow (.int 10) (.int 30) = some (.int 1000000000000000000000000000000) := rfl
  have big : ∀ b : Int, B 210 b → b.natAbs < 2 ^ 4000 := fun b hb => hb.mono (by decide : 210 ≤ 4000)
  cases wide with
  | true =>
    have hd : oDiv (.int x) (.int 1000000000000000000000000000000) = some (.int (x.fdiv 1000000000000000000000000000000)) := oDiv_int (divOk_of (m := 101) (by decide) (by decide) (by decide) (by decide))
    have a1 := Int.fmod_nonneg_of_pos x (b := 1000000000000000000000000000000) (by decide)
    have a2 := Int.fmod_lt_of_pos x (b := 1000000000000000000000000000000) (by decide)
    have b1 := Int.fmod_nonneg_of_pos (x.fdiv 1000000000000000000000000000000) (b := 999999999999999999999999999999) (by decide)
    have b2 := Int.fmod_lt_of_pos (x.fdiv 1000000000000000000000000000000) (b := 999999999999999999999999999999) (by decide)
    generalize hT : x.fmod 1000000000000000000000000000000 = t at a1 a2
    generalize hZ : (x.fdiv 1000000000000000000000000000000).fmod 999999999999999999999999999999 = z at b1 b2
    have B1 : B 210 t := B.mono (m := 101) (by unfold B; omega) (by decide)
    have B2 : B 210 (1 + z) := B.mono (m := 101) (by unfold B; omega) (by decide)
    refine ⟨_, _, fr_prc a1 (show 0 < 1 + z by omega) B1 B2, ?_⟩
    have e := tlow_eq a1 (show 0 < 1 + z by omega) (big _ B2)
    simp [f_tprice_by, s_tprice_by, p30, oMod_int, hd, hT, hZ, e]
    rfl
  | false =>
    have hd : oDiv (.int x) (.int 13) = some (.int (x.fdiv 13)) := oDiv_int (divOk_of (m := 5) (by decide) (by decide) (by decide) (by decide))
    have a1 := Int.fmod_nonneg_of_pos x (b := 13) (by decide)
    have a2 := Int.fmod_lt_of_pos x (b := 13) (by decide)
    have b1 := Int.fmod_nonneg_of_pos (x.fdiv 13) (b := 6) (by decide)
    have b2 := Int.fmod_lt_of_pos (x.fdiv 13) (b := 6) (by decide)
    generalize hT : x.fmod 13 = t at a1 a2
    generalize hZ : (x.fdiv 13).fmod 6 = z at b1 b2
    have B1 : B 210 t := B.mono (m := 101) (by unfold B; omega) (by decide)
    have B2 : B 210 (1 + z) := B.mono (m := 101) (by unfold B; omega) (by decide)
    refine ⟨_, _, fr_prc a1 (show 0 < 1 + z by omega) B1 B2, ?_⟩
    have e := tlow_eq a1 (show 0 < 1 + z by omega) (big _ B2)
    simp [f_tprice_by, s_tprice_by, oMod_int, hd, hT, hZ, e]
    rfl
end Co
end
noncomputable section
namespace Co
open PySem PySem.Spec PyProof.Rows L2 Pi
def tn (T : List Nat) : List D := T.map fun k : Nat => D.int k
theorem tn_len (T : List Nat) : (tn T).length = T.length := by simp [tn]
theorem tn_at {T : List Nat} {k : Nat} (h : k < T.length) : oIx (.lst (tn T)) (.int k) = some (.int (T[k] : Nat)) := by
  rw [oIx_lst (by rw [tn_len]; exact h)]
  simp [tn]
theorem tn_set (T : List Nat) (k v : Nat) : (tn T).set k (.int v) = tn (T.set k v) := by simp [tn, List.map_set]
theorem ixN_nat {n k : Nat} (h : k < n) : ixN n (k : Int) = some k := by
  unfold ixN
  rw [if_pos (by omega), if_pos (by omega)]
  simp
theorem sSw_tn {en : En} {T : List Nat} {i a b : Nat} {va vb : Nat} {ev ek ek2 : EvE} (hi : en[i]? = some (some (.lst (tn T)))) (he : ev en = .ok (.tup [.int (va : Nat), .int (vb : Nat)])) (h1 : ek en = .ok (.int (a : Nat))) (h2 : ∀ l, ek2 (en.set i (some l)) = .ok (.int (b : Nat))) (ha : a < T.length) (hb : b < T.length) :
    sSw i ev ek ek2 en = .ok (.nx (en.set i (some (.lst (tn ((T.set a va).set b vb)))))) := by
  have hlt : i < en.length := (List.getElem?_eq_some_iff.mp hi).1
  have g1 : getL i en = .ok (tn T) := by unfold getL; rw [hi]
  have s1 : subL i ek (.int (va : Nat)) en = .ok (en.set i (some (.lst (tn (T.set a va))))) := by
    unfold subL
    rw [g1, bnd_ok, h1, bnd_ok]
    show (match ixN (tn T).length (a : Int) with | some n => _ | none => _) = _
    rw [tn_len, ixN_nat ha]
    show Except.ok (en.set i (some (.lst ((tn T).set a (.int va))))) = _
    rw [tn_set]
  have g2 : getL i (en.set i (some (.lst (tn (T.set a va))))) = .ok (tn (T.set a va)) := by unfold getL; rw [List.getElem?_set_self hlt]
  have s2 : subL i ek2 (.int (vb : Nat)) (en.set i (some (.lst (tn (T.set a va))))) = .ok (en.set i (some (.lst (tn ((T.set a va).set b vb))))) := by
    unfold subL
    rw [g2, bnd_ok, h2, bnd_ok]
    show (match ixN (tn (T.set a va)).length (b : Int) with | some n => _ | none => _) = _
    rw [tn_len, List.length_set, ixN_nat hb]
    show Except.ok ((en.set i (some (.lst (tn (T.set a va))))).set i (some (.lst ((tn (T.set a va)).set b (.int vb))))) = _
    rw [tn_set, List.set_set]
  unfold sSw
  rw [he, bnd_ok]
  show bnd (subL i ek (.int (va : Nat)) en) _ = _
  rw [s1, bnd_ok, s2, bnd_ok]
abbrev bSw : EvS := sSeq (sAs 8 (eB2 oMod (eVar 7) (eB2 oAdd (eVar 6) (eC (.int 1)))))
  (sSw 5 (eTup (aCons (eB2 oIx (eVar 5) (eVar 8)) (aCons (eB2 oIx (eVar 5) (eVar 6)) aNil))) (eVar 6) (eVar 8))
theorem bSw_eq {a0 a1 a2 a3 a4 o6 o7 o8 o9 o10 o11 : Option D} {T : List Nat} {k : Nat} {x : Int} (hk : k < T.length) (hx : 0 ≤ x) : ∃ (T' : List Nat) (o : Nat), T'.Perm T ∧ bSw [a0, a1, a2, a3, a4, some (.lst (tn T)), some (.int k), some (.int x), o8, o9, o10, o11] = .ok (.nx [a0, a1, a2, a3, a4, some (.lst (tn T')), some (.int k), some (.int x), some (.int (o : Nat)), o9, o10, o11]) := by
  have h1 := Int.fmod_nonneg_of_pos x (b := (k : Int) + 1) (by omega)
  have h2 := Int.fmod_lt_of_pos x (b := (k : Int) + 1) (by omega)
  obtain ⟨o, ho⟩ : ∃ o : Nat, x.fmod ((k : Int) + 1) = o := ⟨(x.fmod ((k : Int) + 1)).toNat, by omega⟩
  rw [ho] at h1 h2
  have hol : o < T.length := by omega
  have z : (k : Int) + 1 ≠ 0 := by omega
  refine ⟨(T.set k T[o]).set o T[k], o, List.set_set_perm hk hol, ?_⟩
  have e8 : sAs 8 (eB2 oMod (eVar 7) (eB2 oAdd (eVar 6) (eC (.int 1)))) [a0, a1, a2, a3, a4, some (.lst (tn T)), some (.int k), some (.int x), o8, o9, o10, o11] = .ok (.nx [a0, a1, a2, a3, a4, some (.lst (tn T)), some (.int k), some (.int x), some (.int (o : Nat)), o9, o10, o11]) := by
    simp [oMod_int z, ho]
  unfold bSw
  rw [sSeq_ap, e8, bnd_ok]
  show sSw 5 _ _ _ _ = _
  rw [sSw_tn (T := T) (a := k) (b := o) (va := T[o]) (vb := T[k]) rfl (by simp [tn_at hol, tn_at hk]) (by simp) (fun l => by simp) hk hol]
  rfl
theorem swaps {a0 a1 a2 a3 a4 o9 o10 o11 : Option D} : ∀ (l : List Int) (i : Nat) (T : List Nat) (o6 o7 o8 : Option D), (∀ x, x ∈ l → 0 ≤ x) → i + l.length ≤ T.length →
    ∃ (T' : List Nat) (o6' o7' o8' : Option D), T'.Perm T ∧ evFor (setT [6, 7]) bSw (enumD i (l.map .int)) [a0, a1, a2, a3, a4, some (.lst (tn T)), o6, o7, o8, o9, o10, o11] = .ok (.nx [a0, a1, a2, a3, a4, some (.lst (tn T')), o6', o7', o8', o9, o10, o11])
  | [], i, T, o6, o7, o8, _, _ => ⟨T, o6, o7, o8, List.Perm.refl _, rfl⟩
  | x :: l, i, T, o6, o7, o8, hx, hl => by
    simp only [List.length_cons] at hl
    obtain ⟨T1, o, p1, e1⟩ := bSw_eq (a0 := a0) (a1 := a1) (a2 := a2) (a3 := a3) (a4 := a4) (o6 := o6) (o7 := o7) (o8 := o8) (o9 := o9) (o10 := o10) (o11 := o11) (T := T) (k := i) (x := x) (by omega) (hx x List.mem_cons_self)
    obtain ⟨T2, p6, p7, p8, q1, q2⟩ := swaps (a0 := a0) (a1 := a1) (a2 := a2) (a3 := a3) (a4 := a4) (o9 := o9) (o10 := o10) (o11 := o11) l (i + 1) T1 (some (.int i)) (some (.int x)) (some (.int (o : Nat))) (fun y hy => hx y (List.mem_cons_of_mem _ hy)) (by rw [p1.length_eq]; omega)
    refine ⟨T2, p6, p7, p8, q1.trans p1, ?_⟩
    show bnd (ofO (setT [6, 7] _ (.tup [.int i, .int x]))) _ = _
    show bnd (bSw [a0, a1, a2, a3, a4, some (.lst (tn T)), some (.int i), some (.int x), o8, o9, o10, o11]) _ = _
    rw [e1, bnd_ok]
    exact q2
abbrev Rd3 := Nat × Int × Int
def rd (r : Rd3) : D := .tup [.int (r.1 : Nat), .tup [.int r.2.1, .int r.2.2]]
abbrev bRd : EvS := sSeq (sAs 11 (eFl (eB2 oIx (eB2 oAdd (eLst (aCons (eC (.int 0)) aNil)) (eVar 5)) (eB2 oSub (eVar 6) (eB2 oMod (eVar 7) (eBi oMin (aCons (eB2 oAdd (eVar 6) (eC (.int 1))) (aCons (eB2 oAdd (eC (.int 1)) (eB2 oMod (eB2 oDiv (eVar 7) (eC (.int 41))) (eC (.int 41)))) aNil))))))))
  (sSub 9 (eB2 oSub (eB2 oIx (eVar 5) (eVar 6)) (eC (.int 1))) (eTup (aCons (eVar 11) (aCons (eCall f_tprice_by (aCons (eB2 oIx (eVar 10) (eVar 6)) (aCons (eVar 4) aNil))) aNil))))
theorem oMin_int (i j : Int) : oMin [.int i, .int j] = some (.int (if j < i then j else i)) := rfl
theorem bRd_eq {a0 a1 a2 a3 o8 o11 : Option D} {w : Bool} {T : List Nat} {Rs : List Rd3} {P : List Int} {k : Nat} {x : Int} (hk : k < T.length) (hR : Rs.length = T.length) (hP : P.length = T.length) (hT : ∀ t, t ∈ T → 1 ≤ t ∧ t ≤ T.length) (hn : T.length < 1000) (hB : Bel (10 ^ 60) P) (hx : 0 ≤ x) :
    ∃ (to : Nat) (p q : Int), (to = 0 ∨ ∃ (i : Nat) (h : i < k), T[i]'(by omega) = to) ∧ Prc p q ∧
    bRd [a0, a1, a2, a3, some (.bl w), some (.lst (tn T)), some (.int k), some (.int x), o8, some (.lst (Rs.map rd)), some (.lst (P.map .int)), o11] = .ok (.nx [a0, a1, a2, a3, some (.bl w), some (.lst (tn T)), some (.int k), some (.int x), o8, some (.lst ((Rs.set (T[k] - 1) (to, p, q)).map rd)), some (.lst (P.map .int)), some (.int (to : Nat))]) := by
  have hd : oDiv (.int x) (.int 41) = some (.int (x.fdiv 41)) := oDiv_int (divOk_of (m := 7) (by decide) (by decide) (by decide) (by decide))
  have b1 := Int.fmod_nonneg_of_pos (x.fdiv 41) (b := 41) (by decide)
  generalize hz : (x.fdiv 41).fmod 41 = z at b1
  obtain ⟨m, hm0, hm1, hm⟩ : ∃ m : Int, 0 < m ∧ m ≤ k + 1 ∧ (if 1 + z < (k : Int) + 1 then 1 + z else (k : Int) + 1) = m := ⟨_, by split <;> omega, by split <;> omega, rfl⟩
  have c1 := Int.fmod_nonneg_of_pos x (b := m) hm0
  have c2 := Int.fmod_lt_of_pos x (b := m) hm0
  obtain ⟨i, hi, hik⟩ : ∃ i : Nat, (k : Int) - x.fmod m = i ∧ i ≤ k := ⟨((k : Int) - x.fmod m).toNat, by omega, by omega⟩
  have sz : (tn T).length + 1 ≤ sizeLine := by rw [tn_len, sizeLine_eq]; omega
  obtain ⟨to, hto, eto⟩ : ∃ to : Nat, (to = 0 ∨ ∃ (j : Nat) (h : j < k), T[j]'(by omega) = to) ∧ oIx (.lst (.int 0 :: tn T)) (.int (i : Nat)) = some (.int (to : Nat)) := by
    cases i with
    | zero => exact ⟨0, .inl rfl, oIx_lst (n := 0) (by simp)⟩
    | succ i =>
      refine ⟨T[i]'(by omega), .inr ⟨i, by omega, rfl⟩, ?_⟩
      rw [oIx_lst (by simp [tn_len]; omega)]
      simp [tn]
  have hPk : k < P.length := by omega
  have pk := hB P[k] (List.getElem_mem hPk)
  obtain ⟨p, q, hpq, ep⟩ := tprice_eq P[k] pk.1 (by unfold B; have h := pk.2; have : (10 : Int) ^ 60 < 2 ^ 205 := by decide
                                                    omega) w
  have hTk := hT T[k] (List.getElem_mem hk)
  refine ⟨to, p, q, hto, hpq, ?_⟩
  have hmne : m ≠ 0 := by omega
  have cat : oAdd (.lst [.int 0]) (.lst (tn T)) = some (.lst (.int 0 :: tn T)) := by
    have : 1 + (tn T).length ≤ sizeLine := by omega
    simp [oAdd, this]
  have e11 : sAs 11 (eFl (eB2 oIx (eB2 oAdd (eLst (aCons (eC (.int 0)) aNil)) (eVar 5)) (eB2 oSub (eVar 6) (eB2 oMod (eVar 7) (eBi oMin (aCons (eB2 oAdd (eVar 6) (eC (.int 1))) (aCons (eB2 oAdd (eC (.int 1)) (eB2 oMod (eB2 oDiv (eVar 7) (eC (.int 41))) (eC (.int 41)))) aNil)))))))
      [a0, a1, a2, a3, some (.bl w), some (.lst (tn T)), some (.int k), some (.int x), o8, some (.lst (Rs.map rd)), some (.lst (P.map .int)), o11] = .ok (.nx [a0, a1, a2, a3, some (.bl w), some (.lst (tn T)), some (.int k), some (.int x), o8, some (.lst (Rs.map rd)), some (.lst (P.map .int)), some (.int (to : Nat))]) := by
    simp [cat, hd, oMod_int, hz, oMin_int, hm, hmne, hi, eto]
  have ix1 : ((T[k] : Nat) : Int) - 1 = ((T[k] - 1 : Nat) : Int) := by omega
  have ePk : oIx (.lst (P.map .int)) (.int k) = some (.int P[k]) := by
    rw [oIx_lst (by simpa using hPk)]
    simp
  unfold bRd
  rw [sSeq_ap, e11, bnd_ok]
  show sSub 9 _ _ _ = _
  have g9 : getL 9 [a0, a1, a2, a3, some (.bl w), some (.lst (tn T)), some (.int k), some (.int x), o8, some (.lst (Rs.map rd)), some (.lst (P.map .int)), some (.int (to : Nat))] = .ok (Rs.map rd) := rfl
  unfold sSub
  rw [g9, bnd_ok]
  have ev1 : eTup (aCons (eVar 11) (aCons (eCall f_tprice_by (aCons (eB2 oIx (eVar 10) (eVar 6)) (aCons (eVar 4) aNil))) aNil)) [a0, a1, a2, a3, some (.bl w), some (.lst (tn T)), some (.int k), some (.int x), o8, some (.lst (Rs.map rd)), some (.lst (P.map .int)), some (.int (to : Nat))] = .ok (rd (to, p, q)) := by
    simp [ePk, ep, rd]
  rw [ev1, bnd_ok]
  have ev2 : eB2 oSub (eB2 oIx (eVar 5) (eVar 6)) (eC (.int 1)) [a0, a1, a2, a3, some (.bl w), some (.lst (tn T)), some (.int k), some (.int x), o8, some (.lst (Rs.map rd)), some (.lst (P.map .int)), some (.int (to : Nat))] = .ok (.int ((T[k] - 1 : Nat) : Int)) := by
    simp [tn_at hk, ix1]
  rw [ev2, bnd_ok]
  show (match ixN (Rs.map rd).length ((T[k] - 1 : Nat) : Int) with | some n => _ | none => _) = _
  rw [List.length_map, ixN_nat (by omega)]
  rw [List.map_set]
  rfl
def okR (T : List Nat) (j : Nat) (r : Rd3) : Prop := (r.1 = 0 ∨ ∃ i, i < j ∧ T[i]? = some r.1) ∧ Prc r.2.1 r.2.2
theorem roads_loop {a0 a1 a2 a3 o8 : Option D} {w : Bool} {T : List Nat} {P : List Int} (hP : P.length = T.length) (hT : ∀ t, t ∈ T → 1 ≤ t ∧ t ≤ T.length) (nd : T.Nodup) (hn : T.length < 1000) (hB : Bel (10 ^ 60) P) : ∀ (l : List Int) (k : Nat) (Rs : List Rd3) (o6 o7 o11 : Option D), (∀ x, x ∈ l → 0 ≤ x) → k + l.length ≤ T.length → Rs.length = T.length →
    ∃ (Rs' : List Rd3) (o6' o7' o11' : Option D), Rs'.length = T.length ∧ (∀ j t, k ≤ j → j < k + l.length → T[j]? = some t → ∃ r, Rs'[t - 1]? = some r ∧ okR T j r) ∧ (∀ j t, j < k → T[j]? = some t → Rs'[t - 1]? = Rs[t - 1]?) ∧
    evFor (setT [6, 7]) bRd (enumD k (l.map .int)) [a0, a1, a2, a3, some (.bl w), some (.lst (tn T)), o6, o7, o8, some (.lst (Rs.map rd)), some (.lst (P.map .int)), o11] = .ok (.nx [a0, a1, a2, a3, some (.bl w), some (.lst (tn T)), o6', o7', o8, some (.lst (Rs'.map rd)), some (.lst (P.map .int)), o11'])
  | [], k, Rs, o6, o7, o11, _, _, hR => ⟨Rs, o6, o7, o11, hR, fun j t h1 h2 _ => by simp at h2; omega, fun _ _ _ _ => rfl, rfl⟩
  | x :: l, k, Rs, o6, o7, o11, hx, hl, hR => by
    simp only [List.length_cons] at hl
    have hk : k < T.length := by omega
    obtain ⟨to, p, q, h1, h2, e1⟩ := bRd_eq (a0 := a0) (a1 := a1) (a2 := a2) (a3 := a3) (o8 := o8) (o11 := o11) (w := w) hk hR hP hT hn hB (hx x List.mem_cons_self)
    obtain ⟨Rs', p6, p7, p11, q0, q1, q2, q3⟩ := roads_loop (a0 := a0) (a1 := a1) (a2 := a2) (a3 := a3) (o8 := o8) (w := w) hP hT nd hn hB l (k + 1) (Rs.set (T[k] - 1) (to, p, q)) (some (.int k)) (some (.int x)) (some (.int (to : Nat))) (fun y hy => hx y (List.mem_cons_of_mem _ hy)) (by omega) (by simpa using hR)
    have hTk := hT T[k] (List.getElem_mem hk)
    have ok0 : okR T k (to, p, q) := ⟨h1.imp id fun ⟨i, hi, e⟩ => ⟨i, hi, by rw [List.getElem?_eq_getElem (by omega), e]⟩, h2⟩
    refine ⟨Rs', p6, p7, p11, q0, fun j t hj1 hj2 ht => ?_, fun j t hj ht => ?_, ?_⟩
    · by_cases e : j = k
      · subst e
        have et : T[j] = t := by rw [List.getElem?_eq_getElem hk] at ht; exact Option.some.inj ht
        refine ⟨(to, p, q), ?_, ok0⟩
        rw [q2 j t (Nat.lt_succ_self j) ht, ← et]
        exact List.getElem?_set_self (by omega)
      · exact q1 j t (by omega) (by simp at hj2; omega) ht
    · rw [q2 j t (by omega) ht]
      have hjT : j < T.length := (List.getElem?_eq_some_iff.mp ht).1
      have et : T[j] = t := by rw [List.getElem?_eq_getElem hjT] at ht; exact Option.some.inj ht
      have ne : T[k] ≠ t := fun e => by
        have h3 : T[k]? = T[j]? := by rw [List.getElem?_eq_getElem hk, ht, e]
        have := (List.getElem?_inj hk nd).mp h3
        omega
      have ht1 := hT t (by rw [← et]; exact List.getElem_mem hjT)
      exact List.getElem?_set_ne (by omega)
    · show bnd (bRd [a0, a1, a2, a3, some (.bl w), some (.lst (tn T)), some (.int k), some (.int x), o8, some (.lst (Rs.map rd)), some (.lst (P.map .int)), o11]) _ = _
      rw [e1, bnd_ok]
      exact q3
end Co
end
noncomputable section
namespace Co
open PySem PySem.Spec PyProof.Rows L2 Pi
theorem seq_nx {s t : EvS} {en en' : En} (h : s en = .ok (.nx en')) : sSeq s t en = t en' := by
  rw [sSeq_ap, h, bnd_ok]
theorem many_eq (h m : Int) (hm : 0 ≤ m) (hm8 : m ≤ 8) (a0 a1 : Option D) (r : En) : ∃ n : Nat, n ≤ 20 ∧ sIf (tV (eVar 4))
    (sAs 3 (eB2 oMod (eVar 3) (eC (.int 5))))
    (sIf (tV (eB2 oEq (eB2 oMod (eB2 oDiv (eVar 2) (eC (.int 50))) (eC (.int 6))) (eC (.int 2))))
    (sAs 3 (eB2 oMod (eB2 oDiv (eVar 2) (eC (.int 300))) (eC (.int 21))))
    sNil) (a0 :: a1 :: some (.int h) :: some (.int m) :: some (.bl (decide ((h.fdiv 50).fmod 6 = 1))) :: r) = .ok (.nx (a0 :: a1 :: some (.int h) :: some (.int (n : Nat)) :: some (.bl (decide ((h.fdiv 50).fmod 6 = 1))) :: r)) := by
  have d50 : oDiv (.int h) (.int 50) = some (.int (h.fdiv 50)) := oDiv_int (divOk_of (m := 6) (by decide) (by decide) (by decide) (by decide))
  have d300 : oDiv (.int h) (.int 300) = some (.int (h.fdiv 300)) := oDiv_int (divOk_of (m := 9) (by decide) (by decide) (by decide) (by decide))
  by_cases h1 : (h.fdiv 50).fmod 6 = 1
  · have c1 := Int.fmod_nonneg_of_pos m (b := 5) (by decide)
    have c2 := Int.fmod_lt_of_pos m (b := 5) (by decide)
    obtain ⟨n, hn⟩ : ∃ n : Nat, m.fmod 5 = n := ⟨(m.fmod 5).toNat, by omega⟩
    exact ⟨n, by omega, by simp [h1, oMod_int, hn]⟩
  · by_cases h2 : (h.fdiv 50).fmod 6 = 2
    · have c1 := Int.fmod_nonneg_of_pos (h.fdiv 300) (b := 21) (by decide)
      have c2 := Int.fmod_lt_of_pos (h.fdiv 300) (b := 21) (by decide)
      obtain ⟨n, hn⟩ : ∃ n : Nat, (h.fdiv 300).fmod 21 = n := ⟨((h.fdiv 300).fmod 21).toNat, by omega⟩
      exact ⟨n, by omega, by simp [h1, h2, oMod_int, d50, d300, hn]⟩
    · obtain ⟨n, hn⟩ : ∃ n : Nat, m = n := ⟨m.toNat, by omega⟩
      exact ⟨n, by omega, by simp [h1, h2, oMod_int, d50, hn]⟩
theorem step_nx {s t : EvS} {en en' : En} {r : Rs D} (h : s en = .ok (.nx en')) (q : endR (t en') = r) : endR (sSeq s t en) = r := by
  rw [seq_nx h]
  exact q
structure Roads (T : List Nat) (Rs : List Rd3) : Prop where
  few : T.length ≤ 20
  nd : T.Nodup
  all : ∀ t, 1 ≤ t → t ≤ T.length → t ∈ T
  rng : ∀ t, t ∈ T → 1 ≤ t ∧ t ≤ T.length
  len : Rs.length = T.length
  ok : ∀ j t, T[j]? = some t → ∃ r, Rs[t - 1]? = some r ∧ okR T j r
theorem lcRep (n : Nat) (enb : En) : evLc (set1 6) (fun _ => .ok true) (eTup (aCons (eC (.int 0)) (aCons (eTup (aCons (eC (.int 0)) (aCons (eC (.int 1)) aNil))) aNil))) enb ((List.range n).map fun k : Nat => D.int k) = .ok ((List.replicate n ((0, 0, 1) : Rd3)).map rd) := by
  rw [List.map_replicate]
  have : ∀ l : List D, evLc (set1 6) (fun _ => .ok true) (eTup (aCons (eC (.int 0)) (aCons (eTup (aCons (eC (.int 0)) (aCons (eC (.int 1)) aNil))) aNil))) enb l = .ok (List.replicate l.length (rd (0, 0, 1))) := fun l => by
    induction l with
    | nil => rfl
    | cons d l ih => simp [evLc, ih, rd, List.replicate_succ]
  rw [this]
  simp
theorem perm_roads {T : List Nat} {n : Nat} (h : T.Perm ((List.range n).map (· + 1))) : T.length = n ∧ T.Nodup ∧ (∀ t, 1 ≤ t → t ≤ n → t ∈ T) ∧ (∀ t, t ∈ T → 1 ≤ t ∧ t ≤ n) := by
  refine ⟨by rw [h.length_eq]; simp, h.nodup_iff.mpr ?_, fun t h1 h2 => h.mem_iff.mpr ?_, fun t ht => ?_⟩
  · unfold List.Nodup
    rw [List.pairwise_map]
    exact List.nodup_range.imp fun h e => h (by omega)
  · rw [List.mem_map]
    exact ⟨t - 1, List.mem_range.mpr (by omega), by omega⟩
  · obtain ⟨a, ha, e⟩ := List.mem_map.mp (h.mem_iff.mp ht)
    have := List.mem_range.mp ha
    omega
theorem rg_tn (n : Nat) : irng 1 n = tn ((List.range n).map (· + 1)) := by
  unfold irng tn
  rw [List.map_map]
  apply List.map_congr_left
  intro a _
  simp
  omega
theorem oRgL_n {n : Nat} (hn : n ≤ 20) : oRgL 1 ((n : Int) + 1) = some (.lst (tn ((List.range n).map (· + 1)))) := by
  have e2 : bd62 ((n : Int) + 1) = true := bd62_nat (m := n + 1) (by omega)
  have e3 : ((n : Int) + 1 - 1).toNat = n := by omega
  have e4 : n ≤ 2 ^ 24 := Nat.le_trans hn (by decide)
  have key : ∀ x : Nat, x = n → (bd62 1 = true ∧ bd62 ((n : Int) + 1) = true ∧ x ≤ 2 ^ 24) := fun x hx => ⟨rfl, e2, hx ▸ e4⟩
  unfold oRgL
  rw [if_pos (key _ e3), e3]
  exact congrArg (fun l => some (D.lst l)) (rg_tn n)
theorem troads_eq (ns : List Int) : ∃ (T : List Nat) (Rs : List Rd3), Roads T Rs ∧ f_troads_by [.scr ns, .int 8] = .ok (.lst (Rs.map rd)) := by
  have c0 : f_cell [.scr ns, .int 0] = .ok (.int (cellAt ns 0)) := cell_eq ns 0
  have c1 : f_cell [.scr ns, .int 1] = .ok (.int (cellAt ns 1)) := cell_eq ns 1
  have c2 : f_cell [.scr ns, .int 2] = .ok (.int (cellAt ns 2)) := cell_eq ns 2
  have c3 : f_cell [.scr ns, .int 3] = .ok (.int (cellAt ns 3)) := cell_eq ns 3
  generalize cellAt ns 0 = h at c0
  have d50 : oDiv (.int h) (.int 50) = some (.int (h.fdiv 50)) := oDiv_int (divOk_of (m := 6) (by decide) (by decide) (by decide) (by decide))
  have p60 : oPow (.int 10) (.int 60) = some (.int 1000000000000000000000000000000000000000000000000000000000000) := rfl
  obtain ⟨n, hn, en⟩ := many_eq h (h.fmod 9) (Int.fmod_nonneg_of_pos h (by decide)) (by have := Int.fmod_lt_of_pos h (b := 9) (by decide); omega) (some (.scr ns)) (some (.int 8)) [none, none, none, none, none, none, none]
  generalize hw : decide ((h.fdiv 50).fmod 6 = 1) = w at en
  obtain ⟨l1, q1, q2, q3⟩ := tnumbers_eq (c := cellAt ns 1) (most := 41) (by decide) (by unfold B; exact Nat.lt_of_lt_of_le (by decide : 41 < 2 ^ 6) (Nat.pow_le_pow_right (by decide) (by decide))) (m := n) (by omega)
  obtain ⟨l2, r1, r2, r3⟩ := tnumbers_eq (c := cellAt ns 2) (most := 1681) (by decide) (by unfold B; exact Nat.lt_of_lt_of_le (by decide : 1681 < 2 ^ 11) (Nat.pow_le_pow_right (by decide) (by decide))) (m := n) (by omega)
  obtain ⟨most, hm0, hmB, hm60, em⟩ : ∃ most : Int, 0 < most ∧ B 2000 most ∧ most ≤ 10 ^ 60 ∧ oIx (.lst [.int 78, .int 1000000000000000000000000000000000000000000000000000000000000]) (.int (if w = true then 1 else 0)) = some (.int most) := by
    cases w with
    | true => exact ⟨1000000000000000000000000000000000000000000000000000000000000, by decide, by unfold B; exact Nat.lt_of_lt_of_le (by decide : _ < 2 ^ 201) (Nat.pow_le_pow_right (by decide) (by decide)), by decide, rfl⟩
    | false => exact ⟨78, by decide, by unfold B; exact Nat.lt_of_lt_of_le (by decide : _ < 2 ^ 7) (Nat.pow_le_pow_right (by decide) (by decide)), by decide, rfl⟩
  obtain ⟨P, s1, s2, s3⟩ := tnumbers_eq (c := cellAt ns 3) (most := most) hm0 hmB (m := n) (by omega)
  have l0 : ((List.range n).map (· + 1)).length = n := by simp
  obtain ⟨T, o6, o7, o8, pT, eT⟩ := swaps (a0 := some (.scr ns)) (a1 := some (.int 8)) (a2 := some (.int h)) (a3 := some (.int n)) (a4 := some (.bl w)) (o9 := none) (o10 := none) (o11 := none) l1 0 ((List.range n).map (· + 1)) none none none (fun x hx => (q2 x hx).1) (by rw [l0]; omega)
  obtain ⟨t1, t2, t3, t4⟩ := perm_roads pT
  obtain ⟨Rs, u6, u7, u11, v1, v2, _, eR⟩ := roads_loop (a0 := some (.scr ns)) (a1 := some (.int 8)) (a2 := some (.int h)) (a3 := some (.int n)) (o8 := o8) (w := w) (T := T) (P := P) (by omega) (by rw [t1]; exact t4) t2 (by omega) (fun x hx => ⟨(s2 x hx).1, by have := (s2 x hx).2; omega⟩) l2 0 (List.replicate n (0, 0, 1)) o6 o7 none (fun x hx => (r2 x hx).1) (by omega) (by simp; omega)
  refine ⟨T, Rs, ⟨by omega, t2, by rw [t1]; exact t3, by rw [t1]; exact t4, v1, fun j t ht => v2 j t (Nat.zero_le _) (by have := (List.getElem?_eq_some_iff.mp ht).1; omega) ht⟩, ?_⟩
  have rg := oRgL_n hn
  unfold f_troads_by
  rw [runF_ap]
  show endR (s_troads_by [some (.scr ns), some (.int 8), none, none, none, none, none, none, none, none, none, none]) = _
  unfold s_troads_by
  refine step_nx (en' := [some (.scr ns), some (.int 8), some (.int h), none, none, none, none, none, none, none, none, none]) (by simp [c0]) ?_
  refine step_nx (en' := [some (.scr ns), some (.int 8), some (.int h), some (.int (h.fmod 9)), none, none, none, none, none, none, none, none]) (by simp [oMod_int]) ?_
  refine step_nx (en' := [some (.scr ns), some (.int 8), some (.int h), some (.int (h.fmod 9)), some (.bl w), none, none, none, none, none, none, none]) (by simp [oMod_int, d50, hw]) ?_
  refine step_nx en ?_
  refine step_nx (en' := [some (.scr ns), some (.int 8), some (.int h), some (.int n), some (.bl w), some (.lst (tn ((List.range n).map (· + 1)))), none, none, none, none, none, none]) (by
    have e3 : eRgL2 (eC (.int 1)) (eB2 oAdd (eVar 3) (eC (.int 1))) [some (.scr ns), some (.int 8), some (.int h), some (.int n), some (.bl w), none, none, none, none, none, none, none] = ofO (oRgL 1 ((n : Int) + 1)) := by
      unfold eRgL2
      rw [eC_ap, bnd_ok, eB2_ap, eVar_s, eVar_s, eVar_s, eVar_0, bnd_ok, eC_ap, bnd_ok, oAdd_int, ofO_some, bnd_ok]
    rw [sAs_ap, e3, rg, ofO_some, bnd_ok]
    rfl) ?_
  refine step_nx (en' := [some (.scr ns), some (.int 8), some (.int h), some (.int n), some (.bl w), some (.lst (tn T)), o6, o7, o8, none, none, none]) (by
    rw [sFor_ap]
    have : iEn (aCons (eCall f_tnumbers (aCons (eCall f_cell (aCons (eVar 0) (aCons (eC (.int 1)) aNil))) (aCons (eVar 3) (aCons (eC (.int 41)) aNil)))) aNil) [some (.scr ns), some (.int 8), some (.int h), some (.int n), some (.bl w), some (.lst (tn ((List.range n).map (· + 1)))), none, none, none, none, none, none] = .ok (enumD 0 (l1.map .int)) := by
      unfold iEn
      rw [aCons_ap, eCall_ap, aCons_ap, eCall_ap, aCons_ap, eVar_0, bnd_ok, aCons_ap, eC_ap, bnd_ok, aNil_ap, bnd_ok, bnd_ok, bnd_ok, c1, bnd_ok, aCons_ap, eVar_s, eVar_s, eVar_s, eVar_0, bnd_ok, aCons_ap, eC_ap, bnd_ok, aNil_ap, bnd_ok, bnd_ok, bnd_ok, bnd_ok, q3, bnd_ok, bnd_ok, bnd_ok]
      rfl
    rw [this, bnd_ok]
    exact eT) ?_
  have on := oRng_nat (m := n) (by omega)
  refine step_nx (en' := [some (.scr ns), some (.int 8), some (.int h), some (.int n), some (.bl w), some (.lst (tn T)), o6, o7, o8, some (.lst ((List.replicate n ((0, 0, 1) : Rd3)).map rd)), none, none]) (by
    rw [sAs_ap]
    unfold eLc
    rw [iRn_ap, aCons_ap, eVar_s, eVar_s, eVar_s, eVar_0, bnd_ok, aNil_ap, bnd_ok, bnd_ok, on, ofO_some, bnd_ok, lcRep]
    have : ((List.replicate n ((0, 0, 1) : Rd3)).map rd).length ≤ sizeLine := by rw [List.length_map, List.length_replicate, sizeLine_eq]; omega
    show bnd (bnd (.ok ((List.replicate n ((0, 0, 1) : Rd3)).map rd)) _) _ = _
    rw [bnd_ok, if_pos this, bnd_ok]
    rfl) ?_
  refine step_nx (en' := [some (.scr ns), some (.int 8), some (.int h), some (.int n), some (.bl w), some (.lst (tn T)), o6, o7, o8, some (.lst ((List.replicate n ((0, 0, 1) : Rd3)).map rd)), some (.lst (P.map .int)), none]) (by
    have ei : eB2 oIx (eLst (aCons (eC (.int 78)) (aCons (eB2 oPow (eC (.int 10)) (eC (.int 60))) aNil))) (eBi oInt (aCons (eVar 4) aNil)) [some (.scr ns), some (.int 8), some (.int h), some (.int n), some (.bl w), some (.lst (tn T)), o6, o7, o8, some (.lst ((List.replicate n ((0, 0, 1) : Rd3)).map rd)), none, none] = .ok (.int most) := by
      rw [eB2_ap, eLst_ap, aCons_ap, eC_ap, bnd_ok, aCons_ap, eB2_ap, eC_ap, bnd_ok, eC_ap, bnd_ok, p60, ofO_some, bnd_ok, aNil_ap, bnd_ok, bnd_ok, bnd_ok, bnd_ok, eBi_ap, aCons_ap, eVar_s, eVar_s, eVar_s, eVar_s, eVar_0, bnd_ok, aNil_ap, bnd_ok, bnd_ok, oInt_bl, ofO_some, bnd_ok, em, ofO_some]
    rw [sAs_ap, eCall_ap, aCons_ap, eCall_ap, aCons_ap, eVar_0, bnd_ok, aCons_ap, eC_ap, bnd_ok, aNil_ap, bnd_ok, bnd_ok, bnd_ok, c3, bnd_ok, aCons_ap, eVar_s, eVar_s, eVar_s, eVar_0, bnd_ok, aCons_ap, ei, bnd_ok, aNil_ap, bnd_ok, bnd_ok, bnd_ok, bnd_ok, s3, bnd_ok]
    rfl) ?_
  refine step_nx (en' := [some (.scr ns), some (.int 8), some (.int h), some (.int n), some (.bl w), some (.lst (tn T)), u6, u7, o8, some (.lst (Rs.map rd)), some (.lst (P.map .int)), u11]) (by
    rw [sFor_ap]
    have : iEn (aCons (eCall f_tnumbers (aCons (eCall f_cell (aCons (eVar 0) (aCons (eC (.int 2)) aNil))) (aCons (eVar 3) (aCons (eC (.int 1681)) aNil)))) aNil) [some (.scr ns), some (.int 8), some (.int h), some (.int n), some (.bl w), some (.lst (tn T)), o6, o7, o8, some (.lst ((List.replicate n ((0, 0, 1) : Rd3)).map rd)), some (.lst (P.map .int)), none] = .ok (enumD 0 (l2.map .int)) := by
      unfold iEn
      rw [aCons_ap, eCall_ap, aCons_ap, eCall_ap, aCons_ap, eVar_0, bnd_ok, aCons_ap, eC_ap, bnd_ok, aNil_ap, bnd_ok, bnd_ok, bnd_ok, c2, bnd_ok, aCons_ap, eVar_s, eVar_s, eVar_s, eVar_0, bnd_ok, aCons_ap, eC_ap, bnd_ok, aNil_ap, bnd_ok, bnd_ok, bnd_ok, bnd_ok, r3, bnd_ok, bnd_ok, bnd_ok]
      rfl
    rw [this, bnd_ok]
    exact eR) ?_
  rfl
end Co
end
noncomputable section
namespace Co
open PySem PySem.Spec PyProof.Rows L2 Pi
inductive Way (Rs : List Rd3) : Nat → List Nat → Prop
  | z : Way Rs 0 []
  | s {k : Nat} {l : List Nat} {r : Rd3} : 1 ≤ k → Rs[k - 1]? = some r → Way Rs r.1 l → Way Rs k (k :: l)
def wyF (Rs : List Rd3) : Nat → Nat → List Nat
  | 0, _ => []
  | f + 1, k => if k = 0 then [] else match Rs[k - 1]? with
    | some r => k :: wyF Rs f r.1
    | none => []
def wy (Rs : List Rd3) (k : Nat) : List Nat := wyF Rs Rs.length k
theorem Way.eq {Rs : List Rd3} {k : Nat} {l : List Nat} (h : Way Rs k l) : ∀ f, l.length ≤ f → wyF Rs f k = l := by
  induction h with
  | z => intro f _; cases f <;> simp [wyF]
  | @s k l r h1 h2 _ ih =>
    intro f hf
    cases f with
    | zero => simp at hf
    | succ f => simp only [wyF, h2]; rw [if_neg (by omega), ih f (by simpa using hf)]
theorem Way.rng {Rs : List Rd3} {k : Nat} {l : List Nat} (h : Way Rs k l) : ∀ x, x ∈ l → 1 ≤ x ∧ x ≤ Rs.length := by
  induction h with
  | z => intro x hx; cases hx
  | @s k l r h1 h2 _ ih =>
    intro x hx
    rcases List.mem_cons.mp hx with e | hx
    · have := (List.getElem?_eq_some_iff.mp h2).1
      omega
    · exact ih x hx
structure Tre (Rs : List Rd3) : Prop where
  few : Rs.length ≤ 40
  prc : ∀ r, r ∈ Rs → Prc r.2.1 r.2.2
  to : ∀ r, r ∈ Rs → r.1 ≤ Rs.length
  way : ∀ k, k ≤ Rs.length → ∃ l, Way Rs k l ∧ l.length ≤ Rs.length
theorem Roads.rank {T : List Nat} {Rs : List Rd3} (h : Roads T Rs) : ∀ (n j t : Nat), j < n → T[j]? = some t → ∃ l, Way Rs t l ∧ l.length ≤ j + 1
  | n + 1, j, t, hj, ht => by
    obtain ⟨r, h1, h2, _⟩ := h.ok j t ht
    have t1 := (h.rng t (List.mem_of_getElem? ht)).1
    rcases h2 with e | ⟨i, hi, hT⟩
    · exact ⟨[t], .s t1 h1 (by rw [e]; exact .z), by simp⟩
    · obtain ⟨l, q1, q2⟩ := h.rank n i r.1 (by omega) hT
      exact ⟨t :: l, .s t1 h1 q1, by simp; omega⟩
theorem Roads.at {T : List Nat} {Rs : List Rd3} (h : Roads T Rs) {r : Rd3} (hr : r ∈ Rs) : ∃ j t, T[j]? = some t ∧ okR T j r := by
  obtain ⟨m, hm⟩ := List.mem_iff_getElem?.mp hr
  have hl := (List.getElem?_eq_some_iff.mp hm).1
  have hmem := h.all (m + 1) (by omega) (by have := h.len; omega)
  obtain ⟨j, hj⟩ := List.mem_iff_getElem?.mp hmem
  obtain ⟨r', h1, h2⟩ := h.ok j _ hj
  rw [Nat.add_sub_cancel, hm] at h1
  exact ⟨j, _, hj, by rw [Option.some.inj h1]; exact h2⟩
theorem Roads.tre {T : List Nat} {Rs : List Rd3} (h : Roads T Rs) : Tre Rs where
  few := by have := h.few; have := h.len; omega
  prc r hr := by
    obtain ⟨j, t, _, h2⟩ := h.at hr
    exact h2.2
  to r hr := by
    obtain ⟨j, t, _, h2⟩ := h.at hr
    rcases h2.1 with e | ⟨i, _, hi⟩
    · omega
    · rw [h.len]; exact (h.rng _ (List.mem_of_getElem? hi)).2
  way k hk := by
    cases k with
    | zero => exact ⟨[], .z, by simp⟩
    | succ k =>
      obtain ⟨j, hj⟩ := List.mem_iff_getElem?.mp (h.all (k + 1) (by omega) (by have := h.len; omega))
      obtain ⟨l, q1, q2⟩ := h.rank (j + 1) j _ (Nat.lt_succ_self j) hj
      have := (List.getElem?_eq_some_iff.mp hj).1
      exact ⟨l, q1, by have := h.len; omega⟩
theorem Tre.wy {Rs : List Rd3} (h : Tre Rs) {k : Nat} (hk : k ≤ Rs.length) : Way Rs k (wy Rs k) ∧ (wy Rs k).length ≤ Rs.length := by
  obtain ⟨l, q1, q2⟩ := h.way k hk
  have : Co.wy Rs k = l := q1.eq _ q2
  rw [this]
  exact ⟨q1, q2⟩
theorem rd_0 (r : Rd3) : oIx (rd r) (.int 0) = some (.int (r.1 : Nat)) := rfl
theorem rd_1 (r : Rd3) : oIx (rd r) (.int 1) = some (.tup [.int r.2.1, .int r.2.2]) := rfl
theorem rds_at {Rs : List Rd3} {k : Nat} {r : Rd3} (h1 : 1 ≤ k) (h : Rs[k - 1]? = some r) : oIx (.lst (Rs.map rd)) (.int ((k : Int) - 1)) = some (rd r) := by
  have e : (k : Int) - 1 = ((k - 1 : Nat) : Int) := by omega
  obtain ⟨hl, he⟩ := List.getElem?_eq_some_iff.mp h
  rw [e, oIx_lst (by simpa using hl)]
  simp [he]
def s_wayf : EvS := (sSeq (sAs 2 (eLst aNil))
  (sSeq (sWh (tV (eB2 oNe (eVar 1) (eC (.int 0))))
    (sSeq (sIf (tV (eB2 oEq (eBi oLen (aCons (eVar 2) aNil)) (eBi oLen (aCons (eVar 0) aNil))))
    (sRet (eC .non))
    sNil)
  (sSeq (sApp 2 (eFl (eVar 1)))
  (sAs 1 (eFl (eB2 oIx (eB2 oIx (eVar 0) (eB2 oSub (eVar 1) (eC (.int 1)))) (eC (.int 0))))))))
  (sRet (eVar 2))))
def f_wayf : List D → Rs D := runF 1 s_wayf
theorem wayf_loop {Rs : List Rd3} (few : Rs.length ≤ 40) {k : Nat} {l : List Nat} (h : Way Rs k l) : ∀ acc : List Nat, acc.length + l.length ≤ Rs.length →
    sWh (tV (eB2 oNe (eVar 1) (eC (.int 0))))
    (sSeq (sIf (tV (eB2 oEq (eBi oLen (aCons (eVar 2) aNil)) (eBi oLen (aCons (eVar 0) aNil))))
    (sRet (eC .non))
    sNil)
  (sSeq (sApp 2 (eFl (eVar 1)))
  (sAs 1 (eFl (eB2 oIx (eB2 oIx (eVar 0) (eB2 oSub (eVar 1) (eC (.int 1)))) (eC (.int 0))))))) [some (.lst (Rs.map rd)), some (.int k), some (.lst (tn acc))] = .ok (.nx [some (.lst (Rs.map rd)), some (.int 0), some (.lst (tn (acc ++ l)))]) := by
  induction h with
  | z =>
    intro acc _
    rw [sWh_eq]
    simp
  | @s k l r h1 h2 _ ih =>
    intro acc hacc
    simp only [List.length_cons] at hacc
    have e1 : ¬ (k = 0) := by omega
    have e2 : ¬ ((acc.length : Int) = (Rs.length : Int)) := by omega
    have sz : acc.length < sizeLine := by rw [sizeLine_eq]; omega
    have ap : tn acc ++ [.int k] = tn (acc ++ [k]) := by simp [tn]
    have ih' := ih (acc ++ [k]) (by simp; omega)
    rw [List.append_assoc] at ih'
    have h1' := rds_at h1 h2
    rw [sWh_eq]
    generalize hRD : Rs.map rd = RD at *
    have hlen : RD.length = Rs.length := by rw [← hRD]; simp
    simp [e1, e2, tn_len, hlen, sz, ap, h1', rd_0, ih']
theorem wayf_eq {Rs : List Rd3} (few : Rs.length ≤ 40) {k : Nat} {l : List Nat} (h : Way Rs k l) (hl : l.length ≤ Rs.length) : f_wayf [.lst (Rs.map rd), .int k] = .ok (.lst (tn l)) := by
  have e := wayf_loop few h [] (by simpa using hl)
  generalize Rs.map rd = RD at *
  unfold f_wayf
  rw [runF_ap]
  show endR (s_wayf [some (.lst RD), some (.int k), none]) = _
  unfold s_wayf
  refine step_nx (en' := [some (.lst RD), some (.int k), some (.lst [])]) rfl ?_
  refine step_nx e ?_
  rfl
def s_isr : EvS := (sSeq (sIf (tO (tNt (tV (eIsi .tuple (eVar 0)))) (tV (eB2 oNe (eBi oLen (aCons (eVar 0) aNil)) (eC (.int 2)))))
    (sRet (eC (.bl false)))
    sNil)
  (sSeq (sIf (tO (tNt (tV (eCall f_whole (aCons (eB2 oIx (eVar 0) (eC (.int 0))) aNil)))) (tO (tNt (tV (eCall f_whole (aCons (eB2 oIx (eVar 0) (eC (.int 1))) aNil)))) (tV (eB2 oLt (eB2 oIx (eVar 0) (eC (.int 1))) (eC (.int 1))))))
    (sRet (eC (.bl false)))
    sNil)
  (sRet (eB2 oEq (eCall f_div (aCons (eB2 oIx (eVar 0) (eC (.int 0))) (aCons (eB2 oIx (eVar 0) (eC (.int 1))) aNil))) (eC (.int 1))))))
def f_isr : List D → Rs D := runF 0 s_isr
theorem isr_eq (p q : Int) : f_isr [.tup [.int p, .int q]] = .ok (.bl (decide (0 < q ∧ Int.gcd p q = 1))) := by
  by_cases h : q < 1
  · have h' : ¬ 0 < q := by omega
    simp [f_isr, s_isr, isiB, whole_int, h, h']
  · have h' : 0 < q := by omega
    have e : ((Int.gcd p q : Nat) : Int) = 1 ↔ Int.gcd p q = 1 := by omega
    simp [f_isr, s_isr, isiB, whole_int, h, h', div_eq, e]
def s_isrd : EvS := (sSeq (sIf (tO (tNt (tV (eIsi .tuple (eVar 0)))) (tV (eB2 oNe (eBi oLen (aCons (eVar 0) aNil)) (eC (.int 2)))))
    (sRet (eC (.bl false)))
    sNil)
  (sSeq (sIf (tO (tNt (tV (eCall f_whole (aCons (eB2 oIx (eVar 0) (eC (.int 0))) aNil)))) (tO (tV (eB2 oLt (eB2 oIx (eVar 0) (eC (.int 0))) (eC (.int 0)))) (tV (eB2 oGt (eB2 oIx (eVar 0) (eC (.int 0))) (eVar 1)))))
    (sRet (eC (.bl false)))
    sNil)
  (sRet (eAn (eCall f_isr (aCons (eB2 oIx (eVar 0) (eC (.int 1))) aNil)) (eB2 oGe (eB2 oIx (eB2 oIx (eVar 0) (eC (.int 1))) (eC (.int 0))) (eC (.int 0)))))))
def f_isrd : List D → Rs D := runF 0 s_isrd
theorem isrd_eq {r : Rd3} {n : Nat} (h : r.1 ≤ n) (p : Prc r.2.1 r.2.2) : f_isrd [rd r, .int n] = .ok (.bl true) := by
  have h1 : ¬ ((r.1 : Int) < 0) := by omega
  have h2 : ¬ ((n : Int) < (r.1 : Int)) := by omega
  have h3 := p.q1
  have h4 := p.cop
  have h5 := p.p0
  simp [f_isrd, s_isrd, isiB, rd, whole_int, h1, h2, isr_eq, h3, h4, h5]
def s_tinit (e c : Nat) : EvS := (sSeq (sIf (tO (tNt (tV (eIsi .list (eVar 1)))) (tV (eB2 oGt (eBi oLen (aCons (eVar 1) aNil)) (eC (.int 40)))))
    (sRai e)
    sNil)
  (sSeq (sFor (iL (eVar 1)) (set1 2)
    (sIf (tNt (tV (eCall f_isrd (aCons (eVar 2) (aCons (eBi oLen (aCons (eVar 1) aNil)) aNil)))))
    (sRai e)
    sNil))
  (sSeq (sFor (iRn (aCons (eC (.int 1)) (aCons (eB2 oAdd (eBi oLen (aCons (eVar 1) aNil)) (eC (.int 1))) aNil))) (set1 3)
    (sIf (tV (eB2 (oIs false) (eCall f_wayf (aCons (eVar 1) (aCons (eVar 3) aNil))) (eC .non)))
    (sRai e)
    sNil))
  (sSetf 0 c 0 (eBi oList (aCons (eVar 1) aNil))))))
def f_tinit (e c : Nat) : List D → Rs D := runI c 2 (s_tinit e c)
def tree (c : Nat) (Rs : List Rd3) : D := .obj c [.lst (Rs.map rd)]
theorem step_nxI {s t : EvS} {en en' : En} {r : Rs D} (h : s en = .ok (.nx en')) (q : endI (t en') = r) : endI (sSeq s t en) = r := by
  rw [seq_nx h]
  exact q
theorem tinit_l1 {e : Nat} {a0 a3 : Option D} {RD : List D} {n : Nat} (hn : RD.length = n) : ∀ (l : List Rd3) (o : Option D), (∀ r, r ∈ l → r.1 ≤ n ∧ Prc r.2.1 r.2.2) →
    ∃ o', evFor (set1 2) (sIf (tNt (tV (eCall f_isrd (aCons (eVar 2) (aCons (eBi oLen (aCons (eVar 1) aNil)) aNil)))))
    (sRai e)
    sNil) (l.map rd) [a0, some (.lst RD), o, a3] = .ok (.nx [a0, some (.lst RD), o', a3])
  | [], o, _ => ⟨o, rfl⟩
  | r :: l, o, h => by
    obtain ⟨o', q⟩ := tinit_l1 (e := e) (a0 := a0) (a3 := a3) hn l (some (rd r)) (fun x hx => h x (List.mem_cons_of_mem _ hx))
    obtain ⟨h1, h2⟩ := h r List.mem_cons_self
    refine ⟨o', ?_⟩
    rw [← q]
    simp [evFor, hn, isrd_eq h1 h2]
theorem tn_ne (l : List Nat) : oIs false (.lst (tn l)) .non = some (.bl false) := rfl
theorem tinit_l2 {e : Nat} {a0 a2 : Option D} {Rs : List Rd3} (h : Tre Rs) : ∀ (l : List Nat) (o : Option D), (∀ k, k ∈ l → k ≤ Rs.length) →
    ∃ o', evFor (set1 3) (sIf (tV (eB2 (oIs false) (eCall f_wayf (aCons (eVar 1) (aCons (eVar 3) aNil))) (eC .non)))
    (sRai e)
    sNil) (tn l) [a0, some (.lst (Rs.map rd)), a2, o] = .ok (.nx [a0, some (.lst (Rs.map rd)), a2, o'])
  | [], o, _ => ⟨o, rfl⟩
  | k :: l, o, hl => by
    obtain ⟨o', q⟩ := tinit_l2 (e := e) (a0 := a0) (a2 := a2) h l (some (.int k)) (fun x hx => hl x (List.mem_cons_of_mem _ hx))
    obtain ⟨h1, h2⟩ := h.wy (hl k List.mem_cons_self)
    have w := wayf_eq h.few h1 h2
    refine ⟨o', ?_⟩
    rw [← q]
    show bnd (sIf _ _ _ [a0, some (.lst (Rs.map rd)), a2, some (.int k)]) _ = _
    generalize Rs.map rd = RD at *
    simp [w, tn_ne]
    rfl
theorem oRng_12 {n : Nat} (h : n < 100000) : oRng [.int 1, .int ((n : Int) + 1)] = some (tn ((List.range n).map (· + 1))) := by
  have e2 : bd62 ((n : Int) + 1) = true := bd62_nat (m := n + 1) (by omega)
  have e3 : ((n : Int) + 1 - 1).toNat = n := by omega
  show (if bd62 1 = true ∧ bd62 ((n : Int) + 1) = true then some (irng 1 ((n : Int) + 1 - 1).toNat) else none) = _
  rw [if_pos ⟨rfl, e2⟩, e3, rg_tn]
theorem tinit_eq {e c : Nat} {Rs : List Rd3} (h : Tre Rs) : f_tinit e c [.lst (Rs.map rd)] = .ok (tree c Rs) := by
  have hl : (Rs.map rd).length = Rs.length := by simp
  have few := h.few
  have g : ¬ ((40 : Int) < ((Rs.length : Nat) : Int)) := by omega
  obtain ⟨o2, q2⟩ := tinit_l1 (e := e) (a0 := some (.obj c [])) (a3 := none) hl Rs none (fun r hr => ⟨h.to r hr, h.prc r hr⟩)
  obtain ⟨o3, q3⟩ := tinit_l2 (e := e) (a0 := some (.obj c [])) (a2 := o2) h ((List.range Rs.length).map (· + 1)) none (fun k hk => by
    obtain ⟨a, ha, e⟩ := List.mem_map.mp hk
    have := List.mem_range.mp ha
    omega)
  have rg := oRng_12 (n := Rs.length) (by omega)
  unfold f_tinit runI tree
  show endI (s_tinit e c [some (.obj c []), some (.lst (Rs.map rd)), none, none]) = _
  unfold s_tinit
  refine step_nxI (en' := [some (.obj c []), some (.lst (Rs.map rd)), none, none]) (by simp [isiB, g]) ?_
  refine step_nxI (en' := [some (.obj c []), some (.lst (Rs.map rd)), o2, none]) (by
    rw [sFor_ap, iL_ap, eVar_s, eVar_0, bnd_ok, itemsL_lst, ofO_some, bnd_ok]
    exact q2) ?_
  refine step_nxI (en' := [some (.obj c []), some (.lst (Rs.map rd)), o2, o3]) (by
    rw [sFor_ap, iRn_ap, aCons_ap, eC_ap, bnd_ok, aCons_ap, eB2_ap, eBi_ap, aCons_ap, eVar_s, eVar_0, bnd_ok, aNil_ap, bnd_ok, bnd_ok, oLen_lst, hl, ofO_some, bnd_ok, eC_ap, bnd_ok, oAdd_int, ofO_some, bnd_ok, bnd_ok, bnd_ok, bnd_ok, rg, ofO_some, bnd_ok]
    exact q3) ?_
  simp [sSetf, setD, oList, endI, endO]
@[simp] theorem eFld_ap (c j : Nat) (a : EvE) (en : En) : eFld c j a en = bnd (a en) fun d => match d with
  | .obj c' l => if c' = c then ofO l[j]? else .error .stuck
  | _ => .error .stuck := rfl
def s_troad (c : Nat) : EvS := (sRet (eFi (eBi oList (aCons (eFld c 0 (eVar 0)) aNil))))
def f_troad (c : Nat) : List D → Rs D := runF 0 (s_troad c)
theorem flat_rds (Rs : List Rd3) : flat.flatL (Rs.map rd) = true := by
  induction Rs with
  | nil => rfl
  | cons r Rs ih => simp [ih, rd]
mutual
theorem eqv_self : ∀ d : D, PyData.eqv (toP d) (toP d) = true
  | .non => by simp [toP, PyData.eqv]
  | .bl b => by simp [toP, PyData.eqv]
  | .int i => by simp [toP, PyData.eqv]
  | .str x => by simp [toP, PyData.eqv]
  | .tup l => by rw [toP, PyData.eqv]; exact eqvAll_self l
  | .lst l => by rw [toP, PyData.eqv]; exact eqvAll_self l
  | .dct _ _ => by simp [toP, PyData.eqv]
  | .obj _ _ => by simp [toP, PyData.eqv]
  | .exc _ => by simp [toP, PyData.eqv]
  | .scr _ => by simp [toP, PyData.eqv]
theorem eqvAll_self : ∀ l : List D, PyData.eqvAll (toPL l) (toPL l) = true
  | [] => by simp [toPL, PyData.eqvAll]
  | d :: l => by rw [toPL, PyData.eqvAll, eqv_self d, eqvAll_self l]; rfl
end
theorem pl_rds (Rs : List Rd3) : pl (.lst (Rs.map rd)) 60 = true := by
  rw [pl]
  induction Rs with
  | nil => rfl
  | cons r Rs ih => rw [List.map_cons, plL, ih]; rfl
@[simp] theorem eMeth_ap (c : Nat) (fn : List D → Rs D) (o : EvE) (a : En → Rs (List D)) (en : En) : eMeth c fn o a en = bnd (o en) fun d => match d with
  | .obj c' l => if c' = c then bnd (a en) fun ds => fn (.obj c' l :: ds) else .error .stuck
  | _ => .error .stuck := rfl
end Co
end
noncomputable section
namespace Co
open PySem PySem.Spec PyProof.Rows L2 Pi
def s_troad_at (e c : Nat) : EvS := (sSeq (sIf (tO (tV (eB2 oLt (eVar 1) (eC (.int 1)))) (tV (eB2 oGt (eVar 1) (eBi oLen (aCons (eFld c 0 (eVar 0)) aNil)))))
    (sRai e)
    sNil)
  (sRet (eFl (eB2 oIx (eFld c 0 (eVar 0)) (eB2 oSub (eVar 1) (eC (.int 1)))))))
def f_troad_at (e c : Nat) : List D → Rs D := runF 0 (s_troad_at e c)
theorem flat_rd (r : Rd3) : flat (rd r) = true := by simp [rd]
theorem troad_at_eq {e c : Nat} {Rs : List Rd3} {k : Nat} {r : Rd3} (h1 : 1 ≤ k) (h : Rs[k - 1]? = some r) : f_troad_at e c [tree c Rs, .int k] = .ok (rd r) := by
  have hl : (Rs.map rd).length = Rs.length := by simp
  have hk := (List.getElem?_eq_some_iff.mp h).1
  have g1 : ¬ ((k : Int) < 1) := by omega
  have g2 : ¬ (((Rs.length : Nat) : Int) < (k : Int)) := by omega
  have ix := rds_at h1 h
  have fl := flat_rd r
  unfold tree
  generalize Rs.map rd = RD at *
  simp [f_troad_at, s_troad_at, g1, g2, hl, ix, fl]
theorem troad_at_no {e c : Nat} {Rs : List Rd3} {k : Int} (hk : k < 1 ∨ (Rs.length : Int) < k) : f_troad_at e c [tree c Rs, .int k] = .error (.raise e) := by
  have hl : (Rs.map rd).length = Rs.length := by simp
  unfold tree
  generalize Rs.map rd = RD at *
  rcases hk with hk | hk
  · simp [f_troad_at, s_troad_at, hk]
  · by_cases z : k < 1
    · simp [f_troad_at, s_troad_at, z]
    · simp [f_troad_at, s_troad_at, hk, z, hl]
end Co
end
noncomputable section
namespace Co
open PySem PySem.Spec PyProof.Rows L2 Pi
theorem eCall2_of {fn : List D → Rs D} {a b : EvE} {en : En} {x y : D} {r : Rs D} (h : a en = .ok x) (h2 : b en = .ok y) (q : fn [x, y] = r) : eCall fn (aCons a (aCons b aNil)) en = r := by
  rw [eCall_ap, aCons_ap, h, bnd_ok, aCons_ap, h2, bnd_ok, aNil_ap, bnd_ok, bnd_ok, bnd_ok, q]
theorem eB2_of {op : D → D → Option D} {a b : EvE} {en : En} {x y z : D} (h : a en = .ok x) (h2 : b en = .ok y) (q : op x y = some z) : eB2 op a b en = .ok z := by
  rw [eB2_ap, h, bnd_ok, h2, bnd_ok, q]
  rfl
theorem eBi1_of {op : List D → Option D} {a : EvE} {en : En} {x z : D} (h : a en = .ok x) (q : op [x] = some z) : eBi op (aCons a aNil) en = .ok z := by
  rw [eBi_ap, aCons_ap, h, bnd_ok, aNil_ap, bnd_ok, bnd_ok, q]
  rfl
theorem sAs_of {i : Nat} {ev : EvE} {en : En} {d : D} (h : ev en = .ok d) : sAs i ev en = .ok (.nx (en.set i (some d))) := by
  rw [sAs_ap, h, bnd_ok]
theorem tV_of {ev : EvE} {en : En} {b : Bool} (h : ev en = .ok (.bl b)) : tV ev en = .ok b := by
  rw [tV_ap, h, bnd_ok]
  rfl
abbrev abc : Str := Str.ofString "abcdefghijklmnopqrstuvwxyz"
def ts (xs : List Str) : List D := xs.map .str
@[simp] theorem eM1_ap (op : D → D → Option D) (a b : EvE) (en : En) : eM1 op a b en = bnd (a en) fun x => if isSt x = true then bnd (b en) fun y => ofO (op x y) else .error .stuck := rfl
@[simp] theorem eM0_ap (op : D → Option D) (a : EvE) (en : En) : eM0 op a en = bnd (a en) fun x => if isSt x = true then ofO (op x) else .error .stuck := rfl
@[simp] theorem eSl_ap (a : EvE) (lo hi : En → Rs (Option Int)) (en : En) : eSl a lo hi en = bnd (a en) fun x => bnd (lo en) fun l => bnd (hi en) fun h => ofO (oSl x l h) := rfl
@[simp] theorem oNo_ap (en : En) : oNo en = .ok none := rfl
@[simp] theorem oYes_ap (a : EvE) (en : En) : oYes a en = bnd (a en) fun d => match d with
  | .int i => .ok (some i)
  | _ => .error .stuck := rfl
@[simp] theorem isSt_str (x : Str) : isSt (.str x) = true := rfl
abbrev Hms := List (Str × Nat)
def hmK (h : Hms) : List Key := h.map fun p => Sum.inr p.1
def hmV (h : Hms) : List D := h.map fun p => .int p.2
def homesD (h : Hms) : D := .dct (hmK h) (hmV h)
def home (h : Hms) (x : Str) : Nat := ((h.find? fun p => decide (p.1 = x)).map (·.2)).getD 0
@[simp] theorem getD_0 (ks : List Key) (l : List D) (r : En) : Pi.getD 0 (some (.dct ks l) :: r) = .ok (ks, l) := rfl
@[simp] theorem getD_s (n : Nat) (o : Option D) (r : En) : Pi.getD (n + 1) (o :: r) = Pi.getD n r := rfl
@[simp] theorem dK_str (x : Str) : dK (.str x) = some (.inr x) := rfl
@[simp] theorem dK_int (x : Int) : dK (.int x) = some (.inl x) := rfl
@[simp] theorem sDSub_ap (i : Nat) (ek ev : EvE) (en : En) : sDSub i ek ev en = bnd (Pi.getD i en) fun p => bnd (ev en) fun d => bnd (ek en) fun kd => bnd (ofO (dK kd)) fun k =>
  if p.1.length < sizeLine then .ok (.nx (en.set i (some (.dct (dPut p.1 p.2 k d).1 (dPut p.1 p.2 k d).2)))) else .error .stuck := rfl
@[simp] theorem sRev_ap (i : Nat) (en : En) : sRev i en = bnd (getL i en) fun l => .ok (.nx (en.set i (some (.lst l.reverse)))) := rfl
end Co
end
noncomputable section
namespace Co
open PySem PySem.Spec PyProof.Rows L2 Pi
def addN (K : List Nat) (k : Nat) : List Nat := if k ∈ K then K else K ++ [k]
def grow (Rs : List Rd3) (h : Hms) (K : List Nat) (x : Str) : List Nat := (wy Rs (home h x)).foldl addN K
end Co
end
noncomputable section
namespace Co
open PySem PySem.Spec PyProof.Rows L2 Pi
theorem oNe_self {d : D} (h : pl d 60 = true) : oNe d d = some (.bl false) := by
  unfold oNe
  rw [if_pos ⟨h, h⟩, eqv_self]
  rfl
end Co
end
noncomputable section
namespace Co
open PySem PySem.Spec PyProof.Rows L2 Pi
def rsum (l : List Rat) : Rat := l.foldl (· + ·) 0
end Co
end
noncomputable section
namespace Co
open PySem PySem.Spec PyProof.Rows L2 Pi
def rat (r : Rd3) : Rat := Rat.divInt r.2.1 r.2.2
def pr (Rs : List Rd3) (k : Nat) : Rat := ((Rs[k - 1]?).map rat).getD 0
theorem eFl_of {ev : EvE} {en : En} {d : D} (h : ev en = .ok d) (hf : flat d = true) : eFl ev en = .ok d := by
  rw [eFl_ap, h, bnd_ok, if_pos hf]
def s_tprice (e c : Nat) : EvS := (sRet (eFl (eB2 oIx (eMeth c (f_troad_at e c) (eVar 0) (aCons (eVar 1) aNil)) (eC (.int 1)))))
def f_tprice (e c : Nat) : List D → Rs D := runF 0 (s_tprice e c)
end Co
end
noncomputable section
namespace Co
open PySem PySem.Spec PyProof.Rows L2 Pi
theorem oAdd_lst {a b : List D} (h : a.length + b.length < 1000000) : oAdd (.lst a) (.lst b) = some (.lst (a ++ b)) := by
  have e : a.length + b.length ≤ sizeLine := by rw [sizeLine_eq]; omega
  simp [oAdd, e]
end Co
end
noncomputable section
namespace Co
open PySem PySem.Spec PyProof.Rows L2 Pi
end Co
end
noncomputable section
namespace Co
open PySem PySem.Spec PyProof.Rows L2 Pi
def tm (n t a : Nat) : Nat := if a + t < n then a + t else a + t - n
def sm (r : Rd3) : Prop := r.2.1.natAbs < 100000000000000000000000000000 ∧ r.2.2.natAbs < 100000000000000000000000000000
end Co
end
noncomputable section
namespace Co
open PySem PySem.Spec PyProof.Rows L2 Pi
def tx (w : List Nat) : Str := ⟨w.toArray⟩
def ltr (c : Nat) : Prop := c ∈ abc.cps.toList
def nm (x : Str) : Prop := ∃ w : List Nat, x = tx w ∧ 1 ≤ w.length ∧ w.length ≤ 8 ∧ ∀ c, c ∈ w → ltr c
end Co
end
noncomputable section
namespace Co
open PySem PySem.Spec PyProof.Rows L2 Pi
abbrev St (l : List Nat) : Str := SX.S l
end Co
end
noncomputable section
namespace Co
open PySem PySem.Spec PyProof.Rows L2 Pi
end Co
end
noncomputable section
namespace Co
open PySem PySem.Spec PyProof.Rows L2 Pi
section
variable {Rs : List Rd3} {l1 : List Rd3} {parts : List (List Nat)} {l2 : List (List Nat)}
end
end Co
end
noncomputable section
namespace Co
open PySem PySem.Spec PyProof.Rows L2 Pi
theorem isrd_val {r : Rd3} {n : Nat} (q1 : 0 < r.2.2) (cp : Int.gcd r.2.1 r.2.2 = 1) : f_isrd [rd r, .int n] = .ok (.bl (decide (r.1 ≤ n ∧ 0 ≤ r.2.1))) := by
  have h1 : ¬ ((r.1 : Int) < 0) := by omega
  by_cases h2 : r.1 ≤ n
  · have h2' : ¬ ((n : Int) < (r.1 : Int)) := by omega
    simp [f_isrd, s_isrd, isiB, rd, whole_int, h1, h2, h2', isr_eq, q1, cp]
  · have h2' : (n : Int) < (r.1 : Int) := by omega
    simp [f_isrd, s_isrd, isiB, rd, whole_int, h1, h2, h2']
theorem tinit_f1 {e : Nat} {a0 a3 : Option D} {RD : List D} {n : Nat} (hn : RD.length = n) : ∀ (l : List D) (o : Option D), (∀ d, d ∈ l → ∃ b, f_isrd [d, .int n] = .ok (.bl b)) → (∃ d, d ∈ l ∧ f_isrd [d, .int n] = .ok (.bl false)) →
    evFor (set1 2) (sIf (tNt (tV (eCall f_isrd (aCons (eVar 2) (aCons (eBi oLen (aCons (eVar 1) aNil)) aNil)))))
    (sRai e)
    sNil) l [a0, some (.lst RD), o, a3] = .error (.raise e)
  | [], _, _, ⟨d, h, _⟩ => by cases h
  | d :: l, o, h, ⟨d', h', hf⟩ => by
    obtain ⟨b, hb⟩ := h d List.mem_cons_self
    cases b with
    | false => simp [evFor, hn, hb]
    | true =>
      have hm : d' ∈ l := (List.mem_cons.mp h').resolve_left fun z => by rw [z, hb] at hf; cases hf
      have ih := tinit_f1 (e := e) (a0 := a0) (a3 := a3) hn l (some d) (fun x hx => h x (List.mem_cons_of_mem _ hx)) ⟨d', hm, hf⟩
      rw [← ih]
      simp [evFor, hn, hb]
theorem wayf_any {Rs : List Rd3} (few : Rs.length ≤ 40) (to : ∀ r, r ∈ Rs → r.1 ≤ Rs.length) : ∀ (m k : Nat) (acc : List Nat), acc.length + m = Rs.length → k ≤ Rs.length →
    ∃ f, sWh (tV (eB2 oNe (eVar 1) (eC (.int 0))))
    (sSeq (sIf (tV (eB2 oEq (eBi oLen (aCons (eVar 2) aNil)) (eBi oLen (aCons (eVar 0) aNil))))
    (sRet (eC .non))
    sNil)
  (sSeq (sApp 2 (eFl (eVar 1)))
  (sAs 1 (eFl (eB2 oIx (eB2 oIx (eVar 0) (eB2 oSub (eVar 1) (eC (.int 1)))) (eC (.int 0))))))) [some (.lst (Rs.map rd)), some (.int k), some (.lst (tn acc))] = .ok f ∧
    ((∃ l, f = .nx [some (.lst (Rs.map rd)), some (.int 0), some (.lst (tn l))]) ∨ f = .rt .non) ∧ ((∀ l, ¬ Way Rs k l) → f = .rt .non) := by
  intro m
  induction m with
  | zero =>
    intro k acc hacc hk
    by_cases e1 : k = 0
    · subst e1
      refine ⟨.nx [some (.lst (Rs.map rd)), some (.int 0), some (.lst (tn acc))], ?_, .inl ⟨_, rfl⟩, fun h => absurd Way.z (h [])⟩
      rw [sWh_eq]
      simp
    · refine ⟨.rt .non, ?_, .inr rfl, fun _ => rfl⟩
      have e2 : ((acc.length : Int) = (Rs.length : Int)) := by omega
      rw [sWh_eq]
      generalize hRD : Rs.map rd = RD at *
      have hlen : RD.length = Rs.length := by rw [← hRD]; simp
      simp [e1, e2, tn_len, hlen]
  | succ m ih =>
    intro k acc hacc hk
    by_cases e1 : k = 0
    · subst e1
      refine ⟨.nx [some (.lst (Rs.map rd)), some (.int 0), some (.lst (tn acc))], ?_, .inl ⟨_, rfl⟩, fun h => absurd Way.z (h [])⟩
      rw [sWh_eq]
      simp
    · have hk1 : k - 1 < Rs.length := by omega
      have h2 : Rs[k - 1]? = some Rs[k - 1] := List.getElem?_eq_getElem hk1
      have hr := to Rs[k - 1] (List.getElem_mem _)
      generalize Rs[k - 1] = r at h2 hr
      obtain ⟨f, hf, hd, hw⟩ := ih r.1 (acc ++ [k]) (by simp; omega) hr
      refine ⟨f, ?_, hd, fun h => hw fun l hl => h _ (Way.s (by omega) h2 hl)⟩
      have e2 : ¬ ((acc.length : Int) = (Rs.length : Int)) := by omega
      have sz : acc.length < sizeLine := by rw [sizeLine_eq]; omega
      have ap : tn acc ++ [.int k] = tn (acc ++ [k]) := by simp [tn]
      have h1' := rds_at (k := k) (by omega) h2
      rw [sWh_eq]
      generalize hRD : Rs.map rd = RD at *
      have hlen : RD.length = Rs.length := by rw [← hRD]; simp
      simp [e1, e2, tn_len, hlen, sz, ap, h1', rd_0, hf]
theorem wayf_none {Rs : List Rd3} (few : Rs.length ≤ 40) (to : ∀ r, r ∈ Rs → r.1 ≤ Rs.length) {k : Nat} (hk : k ≤ Rs.length) : ∃ d, f_wayf [.lst (Rs.map rd), .int k] = .ok d ∧ ((∃ l, d = .lst (tn l)) ∨ d = .non) ∧ ((∀ l, ¬ Way Rs k l) → d = .non) := by
  obtain ⟨f, e, h, hw⟩ := wayf_any few to Rs.length k [] (by simp) hk
  have go : ∀ {r : Pi.Rs D}, endR (s_wayf [some (.lst (Rs.map rd)), some (.int k), none]) = r → f_wayf [.lst (Rs.map rd), .int k] = r := fun h => h
  rcases h with ⟨l, rfl⟩ | rfl
  · refine ⟨.lst (tn l), go ?_, .inl ⟨l, rfl⟩, fun h => by cases hw h⟩
    unfold s_wayf
    refine step_nx (en' := [some (.lst (Rs.map rd)), some (.int k), some (.lst [])]) rfl ?_
    exact step_nx e rfl
  · refine ⟨.non, go ?_, .inr rfl, fun _ => rfl⟩
    unfold s_wayf
    refine step_nx (en' := [some (.lst (Rs.map rd)), some (.int k), some (.lst [])]) rfl ?_
    rw [sSeq_ap, show sWh _ _ [some (.lst (Rs.map rd)), some (.int k), some (.lst [])] = _ from e]
    rfl
theorem tinit_f2 {e : Nat} {a0 a2 : Option D} {Rs : List Rd3} (few : Rs.length ≤ 40) (to : ∀ r, r ∈ Rs → r.1 ≤ Rs.length) : ∀ (l : List Nat) (o : Option D), (∀ k, k ∈ l → k ≤ Rs.length) → (∃ k, k ∈ l ∧ ∀ w, ¬ Way Rs k w) →
    evFor (set1 3) (sIf (tV (eB2 (oIs false) (eCall f_wayf (aCons (eVar 1) (aCons (eVar 3) aNil))) (eC .non)))
    (sRai e)
    sNil) (tn l) [a0, some (.lst (Rs.map rd)), a2, o] = .error (.raise e)
  | [], o, _, ⟨k, h, _⟩ => by cases h
  | k :: l, o, hl, ⟨k', h', hn⟩ => by
    obtain ⟨d, hd, hc, hw⟩ := wayf_none few to (hl k List.mem_cons_self)
    by_cases hz : d = .non
    · subst hz
      show bnd (sIf _ _ _ [a0, some (.lst (Rs.map rd)), a2, some (.int k)]) _ = _
      rw [sIf_ap, tV_of (b := true) (eB2_of (eCall2_of rfl rfl hd) rfl rfl), bnd_ok, if_pos rfl]
      rfl
    · obtain ⟨w, rfl⟩ := hc.resolve_right hz
      have hm : k' ∈ l := (List.mem_cons.mp h').resolve_left fun z => hz (hw (by rw [← z]; exact hn))
      have ih := tinit_f2 (e := e) (a0 := a0) (a2 := a2) few to l (some (.int k)) (fun x hx => hl x (List.mem_cons_of_mem _ hx)) ⟨k', hm, hn⟩
      show bnd (sIf _ _ _ [a0, some (.lst (Rs.map rd)), a2, some (.int k)]) _ = _
      rw [sIf_ap, tV_of (b := false) (eB2_of (eCall2_of rfl rfl hd) rfl rfl), bnd_ok, if_neg (by simp)]
      exact ih
theorem tinit_long {e c : Nat} {ds : List D} (h : 40 < ds.length) : f_tinit e c [.lst ds] = .error (.raise e) := by
  have g : ((40 : Int) < ((ds.length : Nat) : Int)) := by omega
  unfold f_tinit runI
  show endI (s_tinit e c [some (.obj c []), some (.lst ds), none, none]) = _
  unfold s_tinit
  simp [isiB, g, endI]
theorem tinit_nolist {e c : Nat} {d : D} {t : Pi.Ty} (ht : tyD d = some t) (h : isiB t .list = false) : f_tinit e c [d] = .error (.raise e) := by
  unfold f_tinit runI
  show endI (s_tinit e c [some (.obj c []), some d, none, none]) = _
  unfold s_tinit
  simp [ht, h, endI]
theorem errI {s t : EvS} {en : En} {x : Er} (h : s en = .error x) : endI (sSeq s t en) = .error x := by
  rw [sSeq_ap, h]
  rfl
theorem tinit_noroad {e c : Nat} {ds : List D} (few : ds.length ≤ 40) (h1 : ∀ d, d ∈ ds → ∃ b, f_isrd [d, .int (ds.length : Nat)] = .ok (.bl b)) (h2 : ∃ d, d ∈ ds ∧ f_isrd [d, .int (ds.length : Nat)] = .ok (.bl false)) : f_tinit e c [.lst ds] = .error (.raise e) := by
  have g : ¬ ((40 : Int) < ((ds.length : Nat) : Int)) := by omega
  have q := tinit_f1 (e := e) (a0 := some (.obj c [])) (a3 := none) rfl ds none h1 h2
  unfold f_tinit runI
  show endI (s_tinit e c [some (.obj c []), some (.lst ds), none, none]) = _
  unfold s_tinit
  refine step_nxI (en' := [some (.obj c []), some (.lst ds), none, none]) (by simp [isiB, g]) ?_
  refine errI ?_
  rw [sFor_ap, iL_ap, eVar_s, eVar_0, bnd_ok, itemsL_lst, ofO_some, bnd_ok]
  exact q
theorem tinit_round {e c : Nat} {Rs : List Rd3} (few : Rs.length ≤ 40) (q1 : ∀ r, r ∈ Rs → Prc r.2.1 r.2.2) (to : ∀ r, r ∈ Rs → r.1 ≤ Rs.length) {k : Nat} (h1 : 1 ≤ k) (hk : k ≤ Rs.length) (hn : ∀ w, ¬ Way Rs k w) : f_tinit e c [.lst (Rs.map rd)] = .error (.raise e) := by
  have hl : (Rs.map rd).length = Rs.length := by simp
  have g : ¬ ((40 : Int) < ((Rs.length : Nat) : Int)) := by omega
  obtain ⟨o2, q2⟩ := tinit_l1 (e := e) (a0 := some (.obj c [])) (a3 := none) hl Rs none (fun r hr => ⟨to r hr, q1 r hr⟩)
  have q3 := tinit_f2 (e := e) (a0 := some (.obj c [])) (a2 := o2) few to ((List.range Rs.length).map (· + 1)) none (fun k hk => by
    obtain ⟨a, ha, e⟩ := List.mem_map.mp hk
    have := List.mem_range.mp ha
    omega) ⟨k, List.mem_map.mpr ⟨k - 1, List.mem_range.mpr (by omega), by omega⟩, hn⟩
  have rg := oRng_12 (n := Rs.length) (by omega)
  unfold f_tinit runI
  show endI (s_tinit e c [some (.obj c []), some (.lst (Rs.map rd)), none, none]) = _
  unfold s_tinit
  refine step_nxI (en' := [some (.obj c []), some (.lst (Rs.map rd)), none, none]) (by simp [isiB, g]) ?_
  refine step_nxI (en' := [some (.obj c []), some (.lst (Rs.map rd)), o2, none]) (by
    rw [sFor_ap, iL_ap, eVar_s, eVar_0, bnd_ok, itemsL_lst, ofO_some, bnd_ok]
    exact q2) ?_
  refine errI ?_
  rw [sFor_ap, iRn_ap, aCons_ap, eC_ap, bnd_ok, aCons_ap, eB2_ap, eBi_ap, aCons_ap, eVar_s, eVar_0, bnd_ok, aNil_ap, bnd_ok, bnd_ok, oLen_lst, hl, ofO_some, bnd_ok, eC_ap, bnd_ok, oAdd_int, ofO_some, bnd_ok, bnd_ok, bnd_ok, bnd_ok, rg, ofO_some, bnd_ok]
  exact q3
theorem noWay {Rs : List Rd3} {S : Nat → Prop} (h0 : ¬ S 0) (hS : ∀ k r, S k → Rs[k - 1]? = some r → S r.1) {k : Nat} {l : List Nat} (w : Way Rs k l) : ¬ S k := by
  induction w with
  | z => exact h0
  | @s k l r h1 h2 _ ih => exact fun z => ih (hS k r z h2)
end Co
end
noncomputable section
namespace Co
open PySem PySem.Spec PyProof.Rows L2 Pi
section
variable {Rs : List Rd3} {l1 : List Rd3} {parts : List (List Nat)} {l2 : List (List Nat)}
end
end Co
end
noncomputable section
namespace Co
open PySem PySem.Spec PyProof.Rows L2 Pi
end Co
end
noncomputable section
namespace Co
open PySem PySem.Spec PyProof.Rows L2 Pi
def Dv (M : Int) (r : Rat) : Prop := ∃ z : Int, r = Rat.divInt z M
theorem Dv.add {M : Int} {a b : Rat} (hM : M ≠ 0) (ha : Dv M a) (hb : Dv M b) : Dv M (a + b) := by
  obtain ⟨x, rfl⟩ := ha
  obtain ⟨y, rfl⟩ := hb
  refine ⟨x + y, ?_⟩
  rw [Rat.divInt_add_divInt _ _ hM hM, ← Int.add_mul, Rat.divInt_mul_right hM]
theorem Dv.zero {M : Int} : Dv M 0 := ⟨0, by rw [Rat.zero_divInt]⟩
theorem Dv.of {d e z : Int} (hd : e ≠ 0) : Dv (d * e) (Rat.divInt z d) := ⟨z * e, by rw [Rat.divInt_mul_right hd]⟩
def pv (p : Int × Int) : Rat := Rat.divInt p.1 p.2
end Co
end
noncomputable section
namespace Co
open PySem PySem.Spec PyProof.Rows L2 Pi
def rep (n : Nat) (x : Rat) : Rat := rsum (List.replicate n x)
end Co
end
noncomputable section
namespace Co
open PySem PySem.Spec PyProof.Rows L2 Pi
end Co
end
noncomputable section
namespace Co
open PySem PySem.Spec PyProof.Rows L2 Pi
def Qn (M : Int) (c : Nat) (r : Rat) : Prop := ∃ z : Int, r = Rat.divInt z M ∧ B c z
section
variable {M : Int} {c c' : Nat} {a b : Rat}
theorem Qn.dv (h : Qn M c a) : Dv M a := by obtain ⟨z, e, _⟩ := h; exact ⟨z, e⟩
theorem Qn.mono (h : Qn M c a) (k : c ≤ c') : Qn M c' a := by obtain ⟨z, e, h⟩ := h; exact ⟨z, e, h.mono k⟩
theorem Qn.zero : Qn M 0 0 := ⟨0, by rw [Rat.zero_divInt], by unfold B; decide⟩
theorem Qn.add (hM : M ≠ 0) (ha : Qn M c a) (hb : Qn M c' b) (k : c' ≤ c) : Qn M (c + 1) (a + b) := by
  obtain ⟨x, rfl, h1⟩ := ha
  obtain ⟨y, rfl, h2⟩ := hb
  refine ⟨x + y, ?_, h1.add (h2.mono k)⟩
  rw [Rat.divInt_add_divInt _ _ hM hM, ← Int.add_mul, Rat.divInt_mul_right hM]
theorem Qn.neg (ha : Qn M c a) : Qn M c (-a) := by
  obtain ⟨x, rfl, h1⟩ := ha
  exact ⟨-x, by rw [Rat.neg_divInt], by unfold B at *; rw [Int.natAbs_neg]; exact h1⟩
theorem Qn.sub (hM : M ≠ 0) (ha : Qn M c a) (hb : Qn M c' b) (k : c' ≤ c) : Qn M (c + 1) (a - b) := by
  rw [Rat.sub_eq_add_neg]
  exact ha.add hM hb.neg k
end
theorem Qn.up {M L : Int} {c d : Nat} {r : Rat} (h : Qn M c r) (hL : L ≠ 0) (bL : B d L) : Qn (M * L) (c + d) r := by
  obtain ⟨z, rfl, hz⟩ := h
  exact ⟨z * L, by rw [Rat.divInt_mul_right hL], hz.mul bL⟩
end Co
end
namespace Sg
def sm {α : Type} (f : α → Rat) : List α → Rat
  | [] => 0
  | x :: l => f x + sm f l
section
variable {α : Type} {f g : α → Rat} {l l' : List α}
end
def updw (w : Nat → Rat) (i : Nat) (x : Rat) : Nat → Rat := fun j => if j = i then w j + x else w j
def run (p : Nat → Rat) (par : Nat → Nat) : (Nat → Rat) → List Nat → (Nat → Rat) × List Nat
  | w, [] => (w, [])
  | w, k :: r => if 0 ≤ w k - p k then ((run p par (updw w (par k) (w k - p k)) r).1, k :: (run p par (updw w (par k) (w k - p k)) r).2) else run p par w r
def okO (par : Nat → Nat) : List Nat → Prop
  | [] => True
  | k :: r => k ≠ 0 ∧ k ∉ r ∧ (par k = 0 ∨ par k ∈ r) ∧ okO par r
section
variable {p : Nat → Rat} {par : Nat → Nat}
theorem okO.n0 : ∀ {l : List Nat}, okO par l → 0 ∉ l
  | [], _ => by simp
  | k :: r, h => fun z => (List.mem_cons.mp z).elim (fun e => h.1 e.symm) (okO.n0 h.2.2.2)
theorem okO.nd : ∀ {l : List Nat}, okO par l → l.Nodup
  | [], _ => List.nodup_nil
  | k :: r, h => List.nodup_cons.mpr ⟨h.2.1, okO.nd h.2.2.2⟩
def scr (p w : Nat → Rat) (A : Nat → Bool) (l : List Nat) : Rat := w 0 + sm (fun k => if A k = true then w k - p k else 0) l
end
structure St (α : Type) where
  n : Nat
  par : Nat → Nat
  wy : Nat → List Nat
  ord : List Nat
  left : List α
  home : α → Nat
  p : Nat → Rat
structure Ok {α : Type} (T : St α) : Prop where
  z : T.wy 0 = []
  s : ∀ k, k ∈ T.ord → T.wy k = k :: T.wy (T.par k)
  oko : okO T.par T.ord
  hm : ∀ x, x ∈ T.left → T.home x = 0 ∨ T.home x ∈ T.ord
  nn : ∀ k, k ∈ T.ord → 0 ≤ T.p k
  nd : T.left.Nodup
section
variable {α : Type} (T : St α)
def w0 (m : Rat) : Nat → Rat := fun k => sm (fun x => if T.home x = k then m else 0) T.left
def K (m : Rat) : List Nat := (run T.p T.par (w0 T m) T.ord).2
def inG (m : Rat) (x : α) : Bool := (T.wy (T.home x)).all fun k => decide (k ∈ K T m)
def G (m : Rat) : List α := T.left.filter (inG T m)
end
section
variable {α : Type} {T : St α} {m : Rat}
end
end Sg
namespace Sg
section
variable {α : Type} {T : St α} {m : Rat}
section
variable [DecidableEq α]
end
end
end Sg
noncomputable section
namespace Co
open PySem PySem.Spec PyProof.Rows L2 Pi
def par (Rs : List Rd3) (k : Nat) : Nat := ((Rs[k - 1]?).map (·.1)).getD 0
end Co
end
noncomputable section
namespace Co
open PySem PySem.Spec PyProof.Rows L2 Pi
structure Ex where
  (t d p c m f n s tc sc : Nat)
section
variable {en en' : En} {ev : EvE} {t : En → Rs Bool} {s u : EvS} {d : D} {w : EvX} {r : Rs (D × En)}
theorem sIf_ff (h : t en = .ok false) : sIf t s sNil en = .ok (.nx en) := by rw [sIf_ap, h, bnd_ok, if_neg (by simp)]; rfl
theorem sIf_tt {q : Rs Fl} (h : t en = .ok true) (e : s en = q) : sIf t s u en = q := by rw [sIf_ap, h, bnd_ok, if_pos rfl]; exact e
theorem tO_f {a b : En → Rs Bool} {c : Bool} (h : a en = .ok false) (h2 : b en = .ok c) : tO a b en = .ok c := by rw [tO_ap, h, bnd_ok, if_neg (by simp)]; exact h2
theorem tO_t {a b : En → Rs Bool} (h : a en = .ok true) : tO a b en = .ok true := by rw [tO_ap, h, bnd_ok, if_pos rfl]
theorem tAn_f {a b : En → Rs Bool} (h : a en = .ok false) : tAn a b en = .ok false := by rw [tAn_ap, h, bnd_ok, if_neg (by simp)]
theorem tAn_t {a b : En → Rs Bool} {c : Bool} (h : a en = .ok true) (h2 : b en = .ok c) : tAn a b en = .ok c := by rw [tAn_ap, h, bnd_ok, if_pos rfl]; exact h2
theorem aC_of {a : EvE} {ea : En → Rs (List D)} {ds : List D} (h : a en = .ok d) (h2 : ea en = .ok ds) : aCons a ea en = .ok (d :: ds) := by rw [aCons_ap, h, bnd_ok, h2]; rfl
theorem eTup_of {ea : En → Rs (List D)} {ds : List D} (h : ea en = .ok ds) : eTup ea en = .ok (.tup ds) := by rw [eTup_ap, h]; rfl
theorem sTu_of {is : List Nat} {ds : List D} (h : ev en = .ok (.tup ds)) (hl : ds.length = is.length) : sTu is ev en = .ok (.nx (setAll en is ds)) := by rw [sTu_ap, h, bnd_ok]; dsimp only; rw [if_pos hl]
theorem sApp_of {i : Nat} {l : List D} (h : getL i en = .ok l) (h2 : ev en = .ok d) (hl : l.length < 1000000) : sApp i ev en = .ok (.nx (en.set i (some (.lst (l ++ [d]))))) := by
  rw [sApp_ap, h, bnd_ok, h2, bnd_ok, if_pos (by rw [sizeLine_eq]; omega)]
theorem sSub_nat {i n : Nat} {l : List D} {ek : EvE} {j : Int} (h : getL i en = .ok l) (h2 : ev en = .ok d) (h3 : ek en = .ok (.int j)) (hn : ixN l.length j = some n) : sSub i ek ev en = .ok (.nx (en.set i (some (.lst (l.set n d))))) := by
  unfold sSub
  rw [h, bnd_ok, h2, bnd_ok, h3, bnd_ok]
  dsimp only
  rw [hn]
end
abbrev Stt := List Rd3 × Hms
def pastD (x : Ex) (past : List Stt) : List D := past.map fun p => .tup [tree x.tc p.1, homesD p.2]
def shire (x : Ex) (st : Stt) (past : List Stt) : D := .obj x.sc [tree x.tc st.1, homesD st.2, .lst (pastD x past)]
section
variable {x : Ex} {st : Stt} {past : List Stt} {r : En}
@[simp] theorem fld_0 : eFld x.sc 0 (eVar 0) (some (shire x st past) :: r) = .ok (tree x.tc st.1) := by simp [eFld, shire]
@[simp] theorem fld_1 : eFld x.sc 1 (eVar 0) (some (shire x st past) :: r) = .ok (homesD st.2) := by simp [eFld, shire]
@[simp] theorem fld_2 : eFld x.sc 2 (eVar 0) (some (shire x st past) :: r) = .ok (.lst (pastD x past)) := by simp [eFld, shire]
end
theorem Way.congr {R R' : List Rd3} (h : ∀ (k : Nat) (r : Rd3), R[k]? = some r → ∃ r', R'[k]? = some r' ∧ r'.1 = r.1) {k : Nat} {l : List Nat} (w : Way R k l) : Way R' k l := by
  induction w with
  | z => exact .z
  | @s k l r h1 h2 _ ih =>
    obtain ⟨r', e1, e2⟩ := h _ _ h2
    exact .s h1 e1 (by rw [e2]; exact ih)
theorem Way.app {R : List Rd3} {r : Rd3} {k : Nat} {l : List Nat} (w : Way R k l) : Way (R ++ [r]) k l := w.congr fun k r' h => ⟨r', by rw [List.getElem?_append_left (List.getElem?_eq_some_iff.mp h).1]; exact h, rfl⟩
end Co
noncomputable section
namespace Lk11
open PySem PySem.Spec PyProof.Rows L2 Pi Co
theorem x_cell : f__law_cell_at = f_cell := rfl
theorem x_roads : f__law_roads_by = f_troads_by := rfl
theorem x_isrd : f_is_road = f_isrd := rfl
theorem x_wayf : f_way_from = f_wayf := rfl
theorem x_at : f_Tree_road_at = f_troad_at 1 0 := rfl
theorem x_price : f_Tree_price = f_tprice 1 0 := rfl
theorem x_troad : f_Tree_roads = f_troad 0 := rfl
theorem se_err {A Z Z' : EvS} {e : Nat} (hz : ∀ en, endI (Z en) = .error (.raise e) → Z' en = .error (.raise e)) (en : En) (h : endI (sSeq A Z en) = .error (.raise e)) : sSeq A Z' en = .error (.raise e) := by
  rw [sSeq_ap] at h ⊢
  cases q : A en with
  | error x => rw [q] at h; exact congrArg Except.error (by injection h)
  | ok fl =>
    rw [q] at h
    cases fl with
    | nx en' => exact hz en' h
    | rt d => cases h
    | ct en' => cases h
theorem var_nr (en : En) : eVar 1 en = .error .stuck ∨ ∃ d, eVar 1 en = .ok d := by
  unfold eVar
  rcases en[1]? with _ | _ | d
  · exact .inl rfl
  · exact .inl rfl
  · exact .inr ⟨d, rfl⟩
theorem li_nr (en : En) : eBi oList (aCons (eVar 1) aNil) en = .error .stuck ∨ ∃ d, eBi oList (aCons (eVar 1) aNil) en = .ok d := by
  rw [eBi_ap, aCons_ap]
  rcases var_nr en with h | ⟨d, h⟩
  · rw [h]; exact .inl rfl
  · rw [h, bnd_ok, aNil_ap, bnd_ok, bnd_ok]
    cases oList [d] with
    | none => exact .inl rfl
    | some d => exact .inr ⟨d, rfl⟩
theorem set_nr {e : Nat} (en : En) (h : endI (sSetf 0 0 0 (eBi oList (aCons (eVar 1) aNil)) en) = .error (.raise e)) : sStuck en = .error (.raise e) := by
  exfalso
  unfold sSetf at h
  rcases li_nr en with q | ⟨d, q⟩
  · rw [q] at h; cases h
  · rw [q, bnd_ok] at h
    split at h
    · split at h
      · unfold endI endO at h
        dsimp only at h
        split at h <;> cases h
      · cases h
    · cases h
theorem mk_no {d : D} (h : f_tinit 0 0 [d] = .error (.raise 0)) : f_Tree___init__ [.obj 0 [], d] = .error (.raise 0) := by
  have hb : sB_Tree___init__ [some (.obj 0 []), some d, none, none] = .error (.raise 0) := se_err (se_err (se_err set_nr)) _ h
  unfold f_Tree___init__ runX
  show (match sB_Tree___init__ [some (.obj 0 []), some d, none, none] with
    | .error (.raise e) => _
    | _ => _) = _
  rw [hb]
theorem se_ok {A Z Z' : EvS} {r : D} (hz : ∀ en, endI (Z en) = .ok r → Z' en = .error .stuck ∨ ∃ fl, Z' en = .ok fl) (en : En) (h : endI (sSeq A Z en) = .ok r) : sSeq A Z' en = .error .stuck ∨ ∃ fl, sSeq A Z' en = .ok fl := by
  rw [sSeq_ap] at h ⊢
  cases q : A en with
  | error x => rw [q] at h; cases h
  | ok fl =>
    rw [q] at h
    cases fl with
    | nx en' => exact hz en' h
    | rt d => cases h
    | ct en' => cases h
theorem sb_ok {A Z : EvS} {Z' : EvX} {r : D} {P : Pi.Rs (D × En) → Prop} (hz : ∀ en, endI (Z en) = .ok r → P (Z' en)) (en : En) (h : endI (sSeq A Z en) = .ok r) : P (sB A Z' en) := by
  rw [sSeq_ap] at h
  unfold sB
  cases q : A en with
  | error x => rw [q] at h; cases h
  | ok fl =>
    rw [q] at h
    cases fl with
    | nx en' => exact hz en' h
    | rt d => cases h
    | ct en' => cases h
theorem xi_ok {t : En → Pi.Rs Bool} {e : Nat} {Z : EvS} {Z' : EvX} {r : D} {P : Pi.Rs (D × En) → Prop} (hz : ∀ en, endI (Z en) = .ok r → P (Z' en)) (en : En) (h : endI (sSeq (sIf t (sRai e) sNil) Z en) = .ok r) : P (xIf' t (fun _ => .error .stuck) Z' en) := by
  rw [sSeq_ap, sIf_ap] at h
  unfold xIf'
  cases q : t en with
  | error x => rw [q] at h; cases h
  | ok b =>
    rw [q] at h
    cases b with
    | true => rw [bnd_ok, if_pos rfl] at h; cases h
    | false => rw [bnd_ok, if_neg (by simp)] at h ⊢; exact hz en h
def Pm (r : D) (x : Pi.Rs (D × En)) : Prop := ∃ en', x = .ok (.non, en') ∧ grab 1 en' = some [r]
theorem set_ok {r : D} (en : En) (h : endI (sSetf 0 0 0 (eBi oList (aCons (eVar 1) aNil)) en) = .ok r) : Pm r (sB (sSetM 0 0 0 (.o .s) (eBi oList (aCons (eVar 1) aNil))) (fun en => .ok (.non, en)) en) := by
  unfold sSetf at h
  unfold sB sSetM
  rcases li_nr en with q | ⟨d, q⟩
  · rw [q] at h; cases h
  · rw [q, bnd_ok] at h ⊢
    have hd : isLD d = true := by
      have q' := q
      rw [eBi_ap, aCons_ap] at q'
      rcases var_nr en with w | ⟨d', w⟩
      · rw [w] at q'; cases q'
      · rw [w, bnd_ok, aNil_ap, bnd_ok, bnd_ok] at q'
        cases d' <;> first | (cases q'; done) | (cases q'; rfl) | (cases q'; unfold isLD; rfl)
    split at h
    · rename_i c l ec
      split at h
      · rename_i hc
        try rw [ec]
        try dsimp only
        rw [if_pos ⟨hc.1, hc.2, .inr hd⟩, bnd_ok]
        refine ⟨_, rfl, ?_⟩
        unfold endI endO at h
        dsimp only at h
        cases en with
        | nil => simp at ec
        | cons o en =>
          injection h with h
          rw [← h]
          rfl
      · cases h
    · cases h
theorem mk_ok {Rs : List Rd3} (h : Tre Rs) : f_Tree___init__ [.obj 0 [], .lst (Rs.map rd)] = .ok (.tup [.non, tree 0 Rs]) := by
  have q : endI (s_tinit 0 0 [some (.obj 0 []), some (.lst (Rs.map rd)), none, none]) = .ok (tree 0 Rs) := tinit_eq (e := 0) (c := 0) h
  have hb : sB_Tree___init__ [some (.obj 0 []), some (.lst (Rs.map rd)), none, none] = .error .stuck ∨ ∃ fl, sB_Tree___init__ [some (.obj 0 []), some (.lst (Rs.map rd)), none, none] = .ok fl := se_ok (se_ok (se_ok fun _ _ => .inl rfl)) _ q
  obtain ⟨en', e1, e2⟩ : Pm (tree 0 Rs) (sM_Tree___init__ [some (.obj 0 []), some (.lst (Rs.map rd)), none, none]) := xi_ok (P := Pm (tree 0 Rs)) (fun en => sb_ok (P := Pm (tree 0 Rs)) (fun en => sb_ok (P := Pm (tree 0 Rs)) (fun en => set_ok en) en) en) _ q
  exact runX_of (p := (.non, en')) hb e1 e2
theorem at_n {Rs : List Rd3} {k : Nat} (h : k < Rs.length) : oIx (.lst (Rs.map rd)) (.int (k : Nat)) = some (rd Rs[k]) := by
  rw [oIx_lst (by simpa using h)]
  simp
abbrev bT : EvS := (sSeq (sIf (tO (tNt (tV (eIsi .tuple (eB2 oIx (eVar 2) (eVar 3))))) (tO (tNt (tV (eIsi .tuple (eB2 oIx (eB2 oIx (eVar 2) (eVar 3)) (eC (.int 1)))))) (tV (eIsi .bool (eB2 oIx (eB2 oIx (eVar 2) (eVar 3)) (eC (.int 0)))))))
 (sRet (eC (.bl false)))
 sNil)
  (sIf (tO (tV (eB2 oNe (eMeth 0 f_Tree_leads_to (eVar 0) (aCons (eB2 oAdd (eVar 3) (eC (.int 1))) aNil)) (eB2 oIx (eB2 oIx (eVar 1) (eVar 3)) (eC (.int 0))))) (tV (eB2 oNe (eMeth 0 f_Tree_price (eVar 0) (aCons (eB2 oAdd (eVar 3) (eC (.int 1))) aNil)) (eB2 oIx (eB2 oIx (eVar 1) (eVar 3)) (eC (.int 1))))))
 (sRet (eC (.bl false)))
 sNil))
theorem oNe_pr (p q : Int) : oNe (.tup [.int p, .int q]) (.tup [.int p, .int q]) = some (.bl false) := oNe_self rfl
theorem tells_loop {Rs : List Rd3} : ∀ (l : List Nat) (o : Option D), (∀ k, k ∈ l → k < Rs.length) → ∃ o', evFor (set1 3) bT (tn l) [some (tree 0 Rs), some (.lst (Rs.map rd)), some (.lst (Rs.map rd)), o] = .ok (.nx [some (tree 0 Rs), some (.lst (Rs.map rd)), some (.lst (Rs.map rd)), o'])
  | [], o, _ => ⟨o, rfl⟩
  | k :: l, o, h => by
    have hk := h k List.mem_cons_self
    obtain ⟨o', q⟩ := tells_loop (Rs := Rs) l (some (.int k)) fun x hx => h x (List.mem_cons_of_mem _ hx)
    have a := at_n hk
    have r := troad_at_eq (e := 1) (c := 0) (k := k + 1) (Rs := Rs) (r := Rs[k]) (by omega) (by simp [hk])
    rw [Int.natCast_add] at r
    refine ⟨o', ?_⟩
    rw [← q]
    show bnd (bT [some (tree 0 Rs), some (.lst (Rs.map rd)), some (.lst (Rs.map rd)), some (.int (k : Nat))]) _ = _
    generalize Rs[k] = r0 at a r
    obtain ⟨t, p, b⟩ := r0
    have f1 : flat (.tup [.int p, .int b]) = true := rfl
    have ld : f_Tree_leads_to [tree 0 Rs, .int ((k : Nat) + 1)] = .ok (.int (t : Nat)) := by
      unfold tree at *
      generalize Rs.map rd = RD at *
      simp [f_Tree_leads_to, s_Tree_leads_to, x_at, show f_troad_at 1 0 [.obj 0 [.lst RD], .int ((k : Nat) + 1)] = _ from r, rd_0]
    have pp : f_Tree_price [tree 0 Rs, .int ((k : Nat) + 1)] = .ok (.tup [.int p, .int b]) := by
      unfold tree at *
      generalize Rs.map rd = RD at *
      simp [f_Tree_price, s_Tree_price, x_at, show f_troad_at 1 0 [.obj 0 [.lst RD], .int ((k : Nat) + 1)] = _ from r, rd_1, f1]
    have c0 : isiB .tuple .tuple = true := rfl
    have c1 : isiB .int .bool = false := rfl
    have np := oNe_pr p b
    unfold tree at *
    generalize Rs.map rd = RD at *
    simp [bT, a, rd, c0, c1, ld, pp, np]
    rfl
theorem tells_eq {Rs : List Rd3} (h : Tre Rs) : f__law_tells [tree 0 Rs, .lst (Rs.map rd)] = .ok (.bl true) := by
  obtain ⟨o', q⟩ := tells_loop (Rs := Rs) (List.range Rs.length) none fun k hk => List.mem_range.mp hk
  have few := h.few
  have hl : (Rs.map rd).length = Rs.length := by simp
  have rg : oRng [.int (Rs.length : Nat)] = some (tn (List.range Rs.length)) := oRng_nat (by omega)
  have fl : flatIn (.lst (Rs.map rd)) = true := flat_rds Rs
  have ne : oNe (.lst (Rs.map rd)) (.lst (Rs.map rd)) = some (.bl false) := oNe_self (pl_rds Rs)
  unfold f__law_tells tree at *
  generalize Rs.map rd = RD at *
  rw [runF_ap]
  show endR (s__law_tells [some (.obj 0 [.lst RD]), some (.lst RD), none, none]) = _
  unfold s__law_tells
  refine step_nx (en' := [some (.obj 0 [.lst RD]), some (.lst RD), some (.lst RD), none]) (by simp [x_troad, f_troad, s_troad, oList, eFi, fl]) ?_
  refine step_nx (en' := [some (.obj 0 [.lst RD]), some (.lst RD), some (.lst RD), none]) (by
    have : isiB .list .list = true := rfl
    simp [ne, this, f_Tree_many, s_Tree_many]) ?_
  refine step_nx (en' := [some (.obj 0 [.lst RD]), some (.lst RD), some (.lst RD), o']) (by
    rw [sFor_ap, iRn_ap, aCons_ap, eBi_ap, aCons_ap, eVar_s, eVar_0, bnd_ok, aNil_ap, bnd_ok, bnd_ok, oLen_lst, hl, ofO_some, bnd_ok, bnd_ok, bnd_ok, rg, ofO_some, bnd_ok]
    exact q) ?_
  refine step_nx (en' := [some (.obj 0 [.lst RD]), some (.lst RD), some (.lst (RD ++ [D.tup [.int 0, .tup [.int 1, .int 1]]])), o']) (sApp_of rfl rfl (by omega)) ?_
  refine step_nx (en' := [some (.obj 0 [.lst RD]), some (.lst RD), some (.lst (RD ++ [D.tup [.int 0, .tup [.int 1, .int 1]]]).reverse), o']) rfl ?_
  rfl
theorem noroad_eq {Rs : List Rd3} {k : Int} (hk : k < 1 ∨ (Rs.length : Int) < k) : f__law_no_road [tree 0 Rs, .int k] = .ok (.bl true) := by
  have r := troad_at_no (e := 1) (c := 0) hk
  have i1 : isxS (xnm xs 1) (.own "ShareError") = true := by decide +kernel
  have i2 : isxS (xnm xs 1) (.own "NoPlace") = true := by decide +kernel
  have i3 : isxS (xnm xs 1) (.own "NoTree") = false := by decide +kernel
  unfold tree at *
  generalize Rs.map rd = RD at *
  have ld : f_Tree_leads_to [.obj 0 [.lst RD], .int k] = .error (.raise 1) := by
    simp [f_Tree_leads_to, s_Tree_leads_to, x_at, r]
  have pp : f_Tree_price [.obj 0 [.lst RD], .int k] = .error (.raise 1) := by
    simp [f_Tree_price, s_Tree_price, x_at, r]
  have it : oInt [.bl true] = some (.int 1) := rfl
  simp [f__law_no_road, s__law_no_road, sTry, sTry0, xEx, ld, pp, i1, i2, i3, hd__law_no_road_0, eIsE, it]
end Lk11
end
noncomputable section
namespace Co
open PySem PySem.Spec PyProof.Rows L2 Pi
end Co
end
noncomputable section
namespace Co
open PySem PySem.Spec PyProof.Rows L2 Pi
theorem eCall4_of {fn : List D → Rs D} {a b c d : EvE} {en : En} {x y z u : D} {r : Rs D} (h : a en = .ok x) (h2 : b en = .ok y) (h3 : c en = .ok z) (h4 : d en = .ok u) (q : fn [x, y, z, u] = r) : eCall fn (aCons a (aCons b (aCons c (aCons d aNil)))) en = r := by
  rw [eCall_ap, aCons_ap, h, bnd_ok, aCons_ap, h2, bnd_ok, aCons_ap, h3, bnd_ok, aCons_ap, h4, bnd_ok, aNil_ap]
  exact q
end Co
end
noncomputable section
namespace Lk11
open PySem PySem.Spec PyProof.Rows L2 Pi Co
theorem fm11 (c : Int) (n : Nat) (hn : 0 < n) : ∃ k : Nat, k < n ∧ c.fmod (n : Nat) = (k : Nat) := by
  have a0 := Int.fmod_nonneg_of_pos c (b := (n : Nat)) (by omega)
  have a1 := Int.fmod_lt_of_pos c (b := (n : Nat)) (by omega)
  exact ⟨(c.fmod (n : Nat)).toNat, by omega, by omega⟩
theorem oDiv_k11 (c : Int) (k : Int) (h : 0 < k ∧ k < 1000) : oDiv (.int c) (.int k) = some (.int (c.fdiv k)) := oDiv_int (divOk_of (m := 12) (by omega) (by omega) (by decide) (by decide))
theorem sIfT11 {t : En → Pi.Rs Bool} {s u k : EvS} {en : En} {d : D} (h1 : t en = .ok true) (h2 : s en = .ok (.rt d)) : endR (sSeq (sIf t s u) k en) = .ok d := by
  rw [sSeq_ap, sIf_tt h1 h2]; rfl
theorem rt11 {ev : EvE} {en : En} {d : D} (h : ev en = .ok d) : sRet ev en = .ok (.rt d) := by rw [sRet_ap, h]; rfl
theorem sIfF11 {t : En → Pi.Rs Bool} {s k : EvS} {en : En} {q : Pi.Rs D} (h : t en = .ok false) (h2 : endR (k en) = q) : endR (sSeq (sIf t s sNil) k en) = q := step_nx (sIf_ff h) h2
theorem pick0 {t p b : Int} {n : Nat} (c : Int) : ∃ d, oIx (.lst [.lst [.int t, .tup [.int p, .int b]], .tup [.int t], .tup [.int t, .tup [.int p, .int b], .int 0], .non, .str (Str.ofString "1"), .int t]) (.int (c.fmod 6)) = some d ∧ flatS d = true ∧ f_isrd [d, .int n] = .ok (.bl false) := by
  obtain ⟨j, hj, e⟩ := fm11 c 6 (by decide)
  have e' : c.fmod 6 = (j : Nat) := e
  rw [e']
  have : j = 0 ∨ j = 1 ∨ j = 2 ∨ j = 3 ∨ j = 4 ∨ j = 5 := by omega
  rcases this with rfl | rfl | rfl | rfl | rfl | rfl
  all_goals exact ⟨_, rfl, rfl, by simp [f_isrd, s_isrd, isiB]⟩
theorem pick1 {pr : D} {n : Nat} {big : Int} (hn : n ≤ 40) (hb : 40 < big) (c : Int) : ∃ d, oIx (.lst [.int ((n : Nat) + 1), .int (-1), .bl true, .str (Str.ofString "0"), .non, .int big]) (.int (c.fmod 6)) = some d ∧ f_isrd [.tup [d, pr], .int n] = .ok (.bl false) := by
  obtain ⟨j, hj, e⟩ := fm11 c 6 (by decide)
  have e' : c.fmod 6 = (j : Nat) := e
  rw [e']
  have g1 : ¬ ((n : Int) + 1 < 0) := by omega
  have g2 : (n : Int) < (n : Int) + 1 := by omega
  have g3 : (n : Int) < big := by omega
  have g4 : ¬ (big < 0) := by omega
  have : j = 0 ∨ j = 1 ∨ j = 2 ∨ j = 3 ∨ j = 4 ∨ j = 5 := by omega
  rcases this with rfl | rfl | rfl | rfl | rfl | rfl
  · exact ⟨_, rfl, by simp [f_isrd, s_isrd, isiB, whole_int, g1, g2]⟩
  · exact ⟨_, rfl, by simp [f_isrd, s_isrd, isiB, whole_int]⟩
  · exact ⟨_, rfl, by simp [f_isrd, s_isrd, isiB, f_whole, s_whole]⟩
  · exact ⟨_, rfl, by simp [f_isrd, s_isrd, isiB, f_whole, s_whole]⟩
  · exact ⟨_, rfl, by simp [f_isrd, s_isrd, isiB, f_whole, s_whole]⟩
  · exact ⟨_, rfl, by simp [f_isrd, s_isrd, isiB, whole_int, g3, g4]⟩
theorem isr_3 : f_isr [.int 3] = .ok (.bl false) := by simp [f_isr, s_isr, isiB]
theorem isr_n : f_isr [.non] = .ok (.bl false) := by simp [f_isr, s_isr, isiB]
theorem isr_l : f_isr [.lst [.int 1, .int 2]] = .ok (.bl false) := by simp [f_isr, s_isr, isiB]
theorem isr_t : f_isr [.tup [.bl true, .int 1]] = .ok (.bl false) := by simp [f_isr, s_isr, isiB, f_whole, s_whole]
theorem pick2 {t n : Nat} (h : t ≤ n) (c : Int) : ∃ d, oIx (.lst [.tup [.int (-1), .int 2], .tup [.int 2, .int 4], .tup [.int 1, .int 0], .int 3, .non, .lst [.int 1, .int 2], .tup [.int 1, .int (-2)], .tup [.bl true, .int 1], .tup [.int 0, .int 2]]) (.int (c.fmod 9)) = some d ∧ f_isrd [.tup [.int (t : Nat), d], .int n] = .ok (.bl false) := by
  obtain ⟨j, hj, e⟩ := fm11 c 9 (by decide)
  have e' : c.fmod 9 = (j : Nat) := e
  rw [e']
  have g1 : ¬ ((t : Int) < 0) := by omega
  have g2 : ¬ ((n : Int) < (t : Int)) := by omega
  have q : ∀ d, f_isr [d] = .ok (.bl false) → f_isrd [.tup [.int (t : Nat), d], .int n] = .ok (.bl false) := fun d hd => by
    simp [f_isrd, s_isrd, isiB, whole_int, g1, g2, hd]
  have : j = 0 ∨ j = 1 ∨ j = 2 ∨ j = 3 ∨ j = 4 ∨ j = 5 ∨ j = 6 ∨ j = 7 ∨ j = 8 := by omega
  rcases this with rfl | rfl | rfl | rfl | rfl | rfl | rfl | rfl | rfl
  · refine ⟨_, rfl, ?_⟩
    have := isr_eq (-1) 2
    have d : decide ((0 : Int) < 2 ∧ Int.gcd (-1) 2 = 1) = true := by decide
    rw [d] at this
    simp [f_isrd, s_isrd, isiB, whole_int, g1, g2, this]
  · exact ⟨_, rfl, q _ (by rw [isr_eq]; rfl)⟩
  · exact ⟨_, rfl, q _ (by rw [isr_eq]; rfl)⟩
  · exact ⟨_, rfl, q _ isr_3⟩
  · exact ⟨_, rfl, q _ isr_n⟩
  · exact ⟨_, rfl, q _ isr_l⟩
  · exact ⟨_, rfl, q _ (by rw [isr_eq]; rfl)⟩
  · exact ⟨_, rfl, q _ isr_t⟩
  · exact ⟨_, rfl, q _ (by rw [isr_eq]; rfl)⟩
theorem eFs_of {ev : EvE} {en : En} {d : D} (h : ev en = .ok d) (hf : flatS d = true) : eFs ev en = .ok d := by
  unfold eFs
  rw [h, bnd_ok, if_pos hf]
theorem eLst_of11 {ea : En → Pi.Rs (List D)} {en : En} {ds : List D} (h : ea en = .ok ds) : eLst ea en = .ok (.lst ds) := by
  rw [eLst_ap, h]; rfl
theorem bad_eq {Rs : List Rd3} {k : Nat} (hk : k < Rs.length) (h : Tre Rs) {way : Int} (w0 : 0 ≤ way) (w4 : way < 4) (c : Int) : ∃ x, f__law_bad_road [.lst (Rs.map rd), .int (k : Nat), .int way, .int c] = .ok x ∧ (f_isrd [x, .int (Rs.length : Nat)] = .ok (.bl false) ∨ x = rd (k + 1, Rs[k].2)) := by
  have a := at_n hk
  have to := h.to Rs[k] (List.getElem_mem _)
  have few := h.few
  have hl : (Rs.map rd).length = Rs.length := by simp
  generalize Rs[k] = r0 at a to ⊢
  obtain ⟨t, p, b⟩ := r0
  have m6 : ∀ a0 a1 a2 a4 a5, eB2 oMod (eVar 3) (eC (.int 6)) [a0, a1, a2, some (.int c), a4, a5] = .ok (.int (c.fmod 6)) := fun _ _ _ _ _ => eB2_of rfl rfl (oMod_int (by decide))
  have m9 : ∀ a0 a1 a2 a4 a5, eB2 oMod (eVar 3) (eC (.int 9)) [a0, a1, a2, some (.int c), a4, a5] = .ok (.int (c.fmod 9)) := fun _ _ _ _ _ => eB2_of rfl rfl (oMod_int (by decide))
  have s1 : sTu [4, 5] (eFl (eB2 oIx (eVar 0) (eVar 1))) [some (.lst (Rs.map rd)), some (.int (k : Nat)), some (.int way), some (.int c), none, none] = .ok (.nx [some (.lst (Rs.map rd)), some (.int (k : Nat)), some (.int way), some (.int c), some (.int (t : Nat)), some (.tup [.int p, .int b])]) := sTu_of (ds := [.int (t : Nat), .tup [.int p, .int b]]) (eFl_of (eB2_of rfl rfl a) rfl) rfl
  have ini : ∀ {x : D} {q : EvS}, endR (q [some (.lst (Rs.map rd)), some (.int (k : Nat)), some (.int way), some (.int c), some (.int (t : Nat)), some (.tup [.int p, .int b])]) = .ok x → s__law_bad_road = sSeq (sTu [4, 5] (eFl (eB2 oIx (eVar 0) (eVar 1)))) q → f__law_bad_road [.lst (Rs.map rd), .int (k : Nat), .int way, .int c] = .ok x := fun {x q} h1 h2 => by
    unfold f__law_bad_road
    rw [runF_ap]
    show endR (s__law_bad_road [some (.lst (Rs.map rd)), some (.int (k : Nat)), some (.int way), some (.int c), none, none]) = _
    rw [h2]
    exact step_nx s1 h1
  have tq : ∀ (j : Int), tV (eB2 oEq (eVar 2) (eC (.int j))) [some (.lst (Rs.map rd)), some (.int (k : Nat)), some (.int way), some (.int c), some (.int (t : Nat)), some (.tup [.int p, .int b])] = .ok (decide (way = j)) := fun j => tV_of (eB2_of rfl rfl (oEq_int way j))
  have w : way = 0 ∨ way = 1 ∨ way = 2 ∨ way = 3 := by omega
  rcases w with rfl | rfl | rfl | rfl
  · obtain ⟨d, e1, e2, e3⟩ := pick0 (t := (t : Nat)) (p := p) (b := b) (n := Rs.length) c
    exact ⟨d, ini (sIfT11 (tq 0) (rt11 (eFs_of (eB2_of rfl (m6 _ _ _ _ _) e1) e2))) rfl, .inl e3⟩
  · obtain ⟨d, e1, e3⟩ := pick1 (pr := .tup [.int p, .int b]) (big := 100000000000000000000000000000) few (by decide) c
    rw [← hl] at e1
    exact ⟨.tup [d, .tup [.int p, .int b]], ini (sIfF11 (tq 0) (sIfT11 (tq 1) (rt11 (eTup_of (aC_of (eB2_of rfl (m6 _ _ _ _ _) e1) rfl))))) rfl, .inl e3⟩
  · obtain ⟨d, e1, e3⟩ := pick2 to c
    exact ⟨.tup [.int (t : Nat), d], ini (sIfF11 (tq 0) (sIfF11 (tq 1) (sIfT11 (tq 2) (rt11 (eTup_of (aC_of rfl (aC_of (eB2_of rfl (m9 _ _ _ _ _) e1) rfl))))))) rfl, .inl e3⟩
  · exact ⟨rd (k + 1, p, b), ini (sIfF11 (tq 0) (sIfF11 (tq 1) (sIfF11 (tq 2) (show endR (sRet _ _) = _ by rw [rt11 (d := rd (k + 1, p, b)) (eTup_of rfl)]; rfl)))) rfl, .inr rfl⟩
abbrev tW : En → Pi.Rs Bool := (tV (eB2 oNe (eB2 oIx (eB2 oIx (eVar 2) (eB2 oSub (eVar 5) (eC (.int 1)))) (eC (.int 0))) (eC (.int 0))))
abbrev bW : EvS := (sAs 5 (eFl (eB2 oIx (eB2 oIx (eVar 2) (eB2 oSub (eVar 5) (eC (.int 1)))) (eC (.int 0)))))
theorem last_of {Rs : List Rd3} {j : Nat} {l : List Nat} (w : Way Rs j l) : j ≠ 0 → ∃ (o : Nat) (v : List Nat) (r : Rd3), 1 ≤ o ∧ Rs[o - 1]? = some r ∧ o ∈ v ∧ j ∈ v ∧ (∀ x, x ∈ v → 1 ≤ x) ∧ (∀ x r, x ∈ v → x ≠ o → Rs[x - 1]? = some r → r.1 ∈ v) ∧ ∀ a0 a1 a3 a4, sWh tW bW [a0, a1, some (.lst (Rs.map rd)), a3, a4, some (.int (j : Nat))] = .ok (.nx [a0, a1, some (.lst (Rs.map rd)), a3, a4, some (.int (o : Nat))]) := by
  induction w with
  | z => intro h; exact absurd rfl h
  | @s k l r h1 h2 w ih =>
    intro _
    have a := rds_at h1 h2
    have ix : ∀ a0 a1 a3 a4, eB2 oIx (eB2 oIx (eVar 2) (eB2 oSub (eVar 5) (eC (.int 1)))) (eC (.int 0)) [a0, a1, some (.lst (Rs.map rd)), a3, a4, some (.int (k : Nat))] = .ok (.int (r.1 : Nat)) := fun _ _ _ _ => eB2_of (eB2_of rfl (eB2_of rfl rfl (oSub_int _ _)) a) rfl (rd_0 r)
    by_cases z : r.1 = 0
    · refine ⟨k, [k], r, h1, h2, by simp, by simp, fun x hx => by rw [List.mem_singleton.mp hx]; exact h1, fun x r hx hn => absurd (List.mem_singleton.mp hx) hn, fun a0 a1 a3 a4 => ?_⟩
      have t : tW [a0, a1, some (.lst (Rs.map rd)), a3, a4, some (.int (k : Nat))] = .ok false := tV_of (eB2_of (ix a0 a1 a3 a4) (eC_ap (.int 0) _) (by rw [oNe_int, z]; rfl))
      rw [sWh_eq, t, bnd_ok, if_neg (by simp)]
    · obtain ⟨o, v, q, o1, oq, ov, jv, v1, vc, lp⟩ := ih z
      refine ⟨o, k :: v, q, o1, oq, List.mem_cons_of_mem _ ov, List.mem_cons_self, fun x hx => ?_, fun x y hx hn hy => ?_, fun a0 a1 a3 a4 => ?_⟩
      · rcases List.mem_cons.mp hx with rfl | hx
        · exact h1
        · exact v1 x hx
      · rcases List.mem_cons.mp hx with rfl | hx
        · rw [h2] at hy
          injection hy with hy
          rw [← hy]
          exact List.mem_cons_of_mem _ jv
        · exact List.mem_cons_of_mem _ (vc x y hx hn hy)
      · have z' : ¬ ((r.1 : Int) = 0) := by omega
        have t : tW [a0, a1, some (.lst (Rs.map rd)), a3, a4, some (.int (k : Nat))] = .ok true := tV_of (eB2_of (ix a0 a1 a3 a4) (eC_ap (.int 0) _) (by rw [oNe_int, decide_eq_false z']; rfl))
        rw [sWh_eq, t, bnd_ok, if_pos rfl, show bW [a0, a1, some (.lst (Rs.map rd)), a3, a4, some (.int (k : Nat))] = .ok (.nx [a0, a1, some (.lst (Rs.map rd)), a3, a4, some (.int (r.1 : Nat))]) from sAs_of (eFl_of (ix a0 a1 a3 a4) rfl), bnd_ok]
        exact lp a0 a1 a3 a4
theorem fill_loop {a0 a1 a3 a4 a5 : Option D} : ∀ (m : Nat) (l : List D), l.length + m = 41 → ∃ l', l'.length = 41 ∧ sWh (tV (eB2 oLt (eBi oLen (aCons (eVar 2) aNil)) (eC (.int 41))))
 (sApp 2 (eTup (aCons (eC (.int 0)) (aCons (eTup (aCons (eC (.int 1)) (aCons (eC (.int 2)) aNil))) aNil)))) [a0, a1, some (.lst l), a3, a4, a5] = .ok (.nx [a0, a1, some (.lst l'), a3, a4, a5])
  | 0, l, h => ⟨l, by omega, by
    have g : ¬ ((l.length : Int) < 41) := by omega
    rw [sWh_eq]
    simp [g]⟩
  | m + 1, l, h => by
    obtain ⟨l', h1, h2⟩ := fill_loop (a0 := a0) (a1 := a1) (a3 := a3) (a4 := a4) (a5 := a5) m (l ++ [.tup [.int 0, .tup [.int 1, .int 2]]]) (by simp; omega)
    refine ⟨l', h1, ?_⟩
    have g : ((l.length : Int) < 41) := by omega
    have t : tV (eB2 oLt (eBi oLen (aCons (eVar 2) aNil)) (eC (.int 41))) [a0, a1, some (.lst l), a3, a4, a5] = .ok true := by simp [g]
    rw [sWh_eq, t, bnd_ok, if_pos rfl, sApp_of (l := l) (d := .tup [.int 0, .tup [.int 1, .int 2]]) rfl rfl (by omega), bnd_ok]
    exact h2
theorem refuse {Rs : List Rd3} (h : Tre Rs) {k : Nat} (hk : k < Rs.length) {x : D} (hx : f_isrd [x, .int (Rs.length : Nat)] = .ok (.bl false)) : f_tinit 0 0 [.lst ((Rs.map rd).set k x)] = .error (.raise 0) := by
  have hl : ((Rs.map rd).set k x).length = Rs.length := by simp
  refine tinit_noroad (by rw [hl]; exact h.few) (fun d hd => ?_) ⟨x, ?_, by rw [hl]; exact hx⟩
  · rw [hl]
    rcases List.mem_or_eq_of_mem_set hd with hd | rfl
    · obtain ⟨r, hr, rfl⟩ := List.mem_map.mp hd
      exact ⟨_, isrd_eq (h.to r hr) (h.prc r hr)⟩
    · exact ⟨_, hx⟩
  · exact List.mem_set (by simpa using hk) _
theorem spoilt_eq {Rs : List Rd3} (h : Tre Rs) (lt : Rs.length ≤ 20) (c : Int) : ∃ x, f__law_spoilt [.lst (Rs.map rd), .int c] = .ok x ∧ f_tinit 0 0 [x] = .error (.raise 0) := by
  have few := h.few
  have hl : (Rs.map rd).length = Rs.length := by simp
  obtain ⟨w, hw, ew⟩ := fm11 c 7 (by decide)
  have ew' : c.fmod 7 = (w : Nat) := ew
  have d7 := oDiv_k11 c 7 (by decide)
  have d300 := oDiv_k11 c 300 (by decide)
  have s1 : sAs 2 (eBi oList (aCons (eVar 0) aNil)) [some (.lst (Rs.map rd)), some (.int c), none, none, none, none] = .ok (.nx [some (.lst (Rs.map rd)), some (.int c), some (.lst (Rs.map rd)), none, none, none]) := rfl
  have s2 : sAs 3 (eB2 oMod (eVar 1) (eC (.int 7))) [some (.lst (Rs.map rd)), some (.int c), some (.lst (Rs.map rd)), none, none, none] = .ok (.nx [some (.lst (Rs.map rd)), some (.int c), some (.lst (Rs.map rd)), some (.int (w : Nat)), none, none]) := sAs_of (eB2_of rfl rfl (by rw [oMod_int (by decide), ew']))
  have tq : ∀ (j : Int) (a4 a5 : Option D), tV (eB2 oEq (eVar 3) (eC (.int j))) [some (.lst (Rs.map rd)), some (.int c), some (.lst (Rs.map rd)), some (.int (w : Nat)), a4, a5] = .ok (decide ((w : Int) = j)) := fun j _ _ => tV_of (eB2_of rfl rfl (oEq_int _ j))
  unfold f__law_spoilt
  rw [runF_ap]
  show ∃ x, endR (s__law_spoilt [some (.lst (Rs.map rd)), some (.int c), none, none, none, none]) = .ok x ∧ _
  unfold s__law_spoilt
  by_cases w5 : w = 5
  · obtain ⟨l', h1, h2⟩ := fill_loop (a0 := some (.lst (Rs.map rd))) (a1 := some (.int c)) (a3 := some (.int (w : Nat))) (a4 := none) (a5 := none) (41 - Rs.length) (Rs.map rd) (by rw [hl]; omega)
    exact ⟨.lst l', step_nx s1 (step_nx s2 (sIfT11 ((tq 5 none none).trans (by rw [w5]; rfl)) (by rw [seq_nx h2]; rfl))), tinit_long (by omega)⟩
  have t5 : ∀ a4 a5, tV (eB2 oEq (eVar 3) (eC (.int 5))) [some (.lst (Rs.map rd)), some (.int c), some (.lst (Rs.map rd)), some (.int (w : Nat)), a4, a5] = .ok false := fun a4 a5 => (tq 5 a4 a5).trans (by rw [decide_eq_false (by omega)])
  have ln : ∀ a3 a4 a5, eBi oLen (aCons (eVar 2) aNil) [some (.lst (Rs.map rd)), some (.int c), some (.lst (Rs.map rd)), a3, a4, a5] = .ok (.int (Rs.length : Nat)) := fun _ _ _ => eBi1_of rfl (by rw [oLen_lst, hl])
  by_cases g4 : w = 4 ∨ Rs.length = 0
  · have t4 : tO (tV (eB2 oEq (eVar 3) (eC (.int 4)))) (tV (eB2 oEq (eBi oLen (aCons (eVar 2) aNil)) (eC (.int 0)))) [some (.lst (Rs.map rd)), some (.int c), some (.lst (Rs.map rd)), some (.int (w : Nat)), none, none] = .ok true := by
      by_cases w4 : w = 4
      · exact tO_t ((tq 4 none none).trans (by rw [w4]; rfl))
      · exact tO_f ((tq 4 none none).trans (by rw [decide_eq_false (by omega)])) (tV_of (eB2_of (ln _ _ _) rfl (by rw [oEq_int, decide_eq_true (by omega)])))
    have ad : oAdd (.lst (Rs.map rd)) (.lst [.non]) = some (.lst (Rs.map rd ++ [.non])) := oAdd_lst (by rw [hl]; simp; omega)
    have it : ∀ a3 a4 a5, (aCons (eC .non) (aCons (eBi oTupl (aCons (eVar 2) aNil)) (aCons (eC (.str (Str.ofString ""))) (aCons (eC (.int 3)) (aCons (eB2 oAdd (eVar 2) (eLst (aCons (eC .non) aNil))) aNil))))) [some (.lst (Rs.map rd)), some (.int c), some (.lst (Rs.map rd)), a3, a4, a5] = .ok [.non, .tup (Rs.map rd), .str (Str.ofString ""), .int 3, .lst (Rs.map rd ++ [.non])] := fun a3 a4 a5 => aC_of rfl (aC_of rfl (aC_of rfl (aC_of rfl (aC_of (eB2_of rfl rfl ad) rfl))))
    obtain ⟨j, hj, ej⟩ := fm11 (c.fdiv 7) 5 (by decide)
    have ej' : (c.fdiv 7).fmod 5 = (j : Nat) := ej
    have ixj : ∀ a3 a4 a5, eB2 oMod (eB2 oDiv (eVar 1) (eC (.int 7))) (eC (.int 5)) [some (.lst (Rs.map rd)), some (.int c), some (.lst (Rs.map rd)), a3, a4, a5] = .ok (.int (j : Nat)) := fun _ _ _ => eB2_of (eB2_of rfl rfl d7) rfl (by rw [oMod_int (by decide), ej'])
    suffices hx : ∃ x, oIx (.lst [.non, .tup (Rs.map rd), .str (Str.ofString ""), .int 3, .lst (Rs.map rd ++ [.non])]) (.int (j : Nat)) = some x ∧ f_tinit 0 0 [x] = .error (.raise 0) by
      obtain ⟨x, h1, h2⟩ := hx
      exact ⟨x, step_nx s1 (step_nx s2 (sIfF11 (t5 _ _) (sIfT11 t4 (rt11 (eB2_of (eLst_of11 (it _ _ _)) (ixj _ _ _) h1))))), h2⟩
    have jj : j = 0 ∨ j = 1 ∨ j = 2 ∨ j = 3 ∨ j = 4 := by omega
    rcases jj with rfl | rfl | rfl | rfl | rfl
    · exact ⟨.non, rfl, tinit_nolist (t := .non) rfl rfl⟩
    · exact ⟨(.tup (Rs.map rd)), rfl, tinit_nolist (t := .tuple) rfl rfl⟩
    · exact ⟨(.str (Str.ofString "")), rfl, tinit_nolist (t := .str) rfl rfl⟩
    · exact ⟨(.int 3), rfl, tinit_nolist (t := .int) rfl rfl⟩
    · refine ⟨.lst (Rs.map rd ++ [.non]), rfl, tinit_noroad (by simp; omega) (fun d hd => ?_) ⟨.non, by simp, by simp [f_isrd, s_isrd, isiB]⟩⟩
      rcases List.mem_append.mp hd with hd | hd
      · obtain ⟨r, hr, rfl⟩ := List.mem_map.mp hd
        exact ⟨_, isrd_val (n := (Rs.map rd ++ [D.non]).length) (h.prc r hr).q1 (h.prc r hr).cop⟩
      · rw [List.mem_singleton.mp hd]
        exact ⟨false, by simp [f_isrd, s_isrd, isiB]⟩
  have g4' : ¬ w = 4 ∧ ¬ Rs.length = 0 := by omega
  have t4 : tO (tV (eB2 oEq (eVar 3) (eC (.int 4)))) (tV (eB2 oEq (eBi oLen (aCons (eVar 2) aNil)) (eC (.int 0)))) [some (.lst (Rs.map rd)), some (.int c), some (.lst (Rs.map rd)), some (.int (w : Nat)), none, none] = .ok false := tO_f ((tq 4 none none).trans (by rw [decide_eq_false (by omega)])) (tV_of (eB2_of (ln _ _ _) rfl (by rw [oEq_int, decide_eq_false (by omega)])))
  obtain ⟨k, hk, ek⟩ := fm11 (c.fdiv 7) Rs.length (by omega)
  have s4 : sAs 4 (eB2 oMod (eB2 oDiv (eVar 1) (eC (.int 7))) (eBi oLen (aCons (eVar 2) aNil))) [some (.lst (Rs.map rd)), some (.int c), some (.lst (Rs.map rd)), some (.int (w : Nat)), none, none] = .ok (.nx [some (.lst (Rs.map rd)), some (.int c), some (.lst (Rs.map rd)), some (.int (w : Nat)), some (.int (k : Nat)), none]) := sAs_of (eB2_of (eB2_of rfl rfl d7) (ln _ _ _) (by rw [oMod_int (by omega), ek]))
  have a := at_n hk
  have hr : Rs[k]? = some Rs[k] := List.getElem?_eq_getElem hk
  have ix : eB2 oIx (eB2 oIx (eVar 2) (eVar 4)) (eC (.int 0)) [some (.lst (Rs.map rd)), some (.int c), some (.lst (Rs.map rd)), some (.int (w : Nat)), some (.int (k : Nat)), none] = .ok (.int (Rs[k].1 : Nat)) := eB2_of (eB2_of rfl rfl a) rfl (rd_0 _)
  by_cases g6 : w = 6 ∧ Rs[k].1 ≠ 0
  · have t6 : tAn (tV (eB2 oEq (eVar 3) (eC (.int 6)))) (tV (eB2 oNe (eB2 oIx (eB2 oIx (eVar 2) (eVar 4)) (eC (.int 0))) (eC (.int 0)))) [some (.lst (Rs.map rd)), some (.int c), some (.lst (Rs.map rd)), some (.int (w : Nat)), some (.int (k : Nat)), none] = .ok true := tAn_t ((tq 6 _ _).trans (by rw [g6.1]; rfl)) (tV_of (eB2_of ix rfl (by
      have : ¬ ((Rs[k].1 : Nat) : Int) = 0 := by have := g6.2; omega
      rw [oNe_int, decide_eq_false this]; rfl)))
    obtain ⟨o, v, r, o1, oq, ov, jv, v1, vc, lp⟩ := last_of (h.wy (h.to _ (List.getElem_mem hk))).1 g6.2
    have ao := rds_at o1 oq
    have ol := (List.getElem?_eq_some_iff.mp oq).1
    have s5 : sAs 5 (eFl (eB2 oIx (eB2 oIx (eVar 2) (eVar 4)) (eC (.int 0)))) [some (.lst (Rs.map rd)), some (.int c), some (.lst (Rs.map rd)), some (.int (w : Nat)), some (.int (k : Nat)), none] = .ok (.nx [some (.lst (Rs.map rd)), some (.int c), some (.lst (Rs.map rd)), some (.int (w : Nat)), some (.int (k : Nat)), some (.int (Rs[k].1 : Nat))]) := sAs_of (eFl_of ix rfl)
    have e : (o : Int) - 1 = ((o - 1 : Nat) : Int) := by omega
    have s6 : sSub 2 (eB2 oSub (eVar 5) (eC (.int 1))) (eTup (aCons (eB2 oAdd (eVar 4) (eC (.int 1))) (aCons (eB2 oIx (eB2 oIx (eVar 2) (eB2 oSub (eVar 5) (eC (.int 1)))) (eC (.int 1))) aNil))) [some (.lst (Rs.map rd)), some (.int c), some (.lst (Rs.map rd)), some (.int (w : Nat)), some (.int (k : Nat)), some (.int (o : Nat))] = .ok (.nx [some (.lst (Rs.map rd)), some (.int c), some (.lst ((Rs.set (o - 1) (k + 1, r.2)).map rd)), some (.int (w : Nat)), some (.int (k : Nat)), some (.int (o : Nat))]) := by
      rw [sSub_nat (l := Rs.map rd) (d := rd (k + 1, r.2)) (j := (o : Int) - 1) (n := o - 1) rfl (eTup_of (aC_of rfl (aC_of (eB2_of (eB2_of rfl (eB2_of rfl rfl (oSub_int _ _)) ao) rfl (rd_1 r)) rfl))) (eB2_of rfl rfl (oSub_int _ _)) (by rw [e]; exact ixN_nat (by rw [hl]; exact ol)), List.map_set]
      rfl
    refine ⟨.lst ((Rs.set (o - 1) (k + 1, r.2)).map rd), step_nx s1 (step_nx s2 (sIfF11 (t5 _ _) (sIfF11 t4 (step_nx s4 (sIfT11 t6 (by rw [seq_nx s5, seq_nx (lp _ _ _ _), seq_nx s6]; rfl)))))), ?_⟩
    have mem : ∀ y, y ∈ Rs.set (o - 1) (k + 1, r.2) → y ∈ Rs ∨ y = (k + 1, r.2) := fun y hy => List.mem_or_eq_of_mem_set hy
    have rm : r ∈ Rs := List.mem_of_getElem? oq
    refine tinit_round (k := k + 1) (by simp; omega) (fun y hy => ?_) (fun y hy => ?_) (by omega) (by simp; omega) fun l hl => noWay (S := fun x => x = k + 1 ∨ x ∈ v) (fun z => ?_) (fun x y hx hy => ?_) hl (.inl rfl)
    · rcases mem y hy with hy | rfl
      · exact h.prc y hy
      · exact h.prc r rm
    · rw [List.length_set]
      rcases mem y hy with hy | rfl
      · exact h.to y hy
      · exact hk
    · rcases z with z | z
      · omega
      · have := v1 _ z; omega
    · by_cases xo : x = o
      · subst xo
        rw [List.getElem?_set_self ol] at hy
        injection hy with hy
        rw [← hy]
        exact .inl rfl
      · have x1 : 1 ≤ x := by
          rcases hx with rfl | hx
          · omega
          · exact v1 x hx
        rw [List.getElem?_set_ne (by omega)] at hy
        rcases hx with rfl | hx
        · rw [Nat.add_sub_cancel, hr] at hy
          injection hy with hy
          rw [← hy]
          exact .inr jv
        · exact .inr (vc x y hx xo hy)
  · have t6 : tAn (tV (eB2 oEq (eVar 3) (eC (.int 6)))) (tV (eB2 oNe (eB2 oIx (eB2 oIx (eVar 2) (eVar 4)) (eC (.int 0))) (eC (.int 0)))) [some (.lst (Rs.map rd)), some (.int c), some (.lst (Rs.map rd)), some (.int (w : Nat)), some (.int (k : Nat)), none] = .ok false := by
      by_cases w6 : w = 6
      · refine tAn_t ((tq 6 _ _).trans (by rw [w6]; rfl)) (tV_of (eB2_of ix rfl ?_))
        have : ((Rs[k].1 : Nat) : Int) = 0 := by
          have : Rs[k].1 = 0 := Classical.byContradiction fun z => g6 ⟨w6, z⟩
          omega
        rw [oNe_int, decide_eq_true this]; rfl
      · exact tAn_f ((tq 6 _ _).trans (by rw [decide_eq_false (by omega)]))
    have m0 := Int.fmod_nonneg_of_pos (w : Int) (b := 4) (by decide)
    have m1 := Int.fmod_lt_of_pos (w : Int) (b := 4) (by decide)
    obtain ⟨x, hx, cx⟩ := bad_eq hk h m0 m1 (c.fdiv 300)
    have s7 : sSub 2 (eVar 4) (eCall f__law_bad_road (aCons (eVar 2) (aCons (eVar 4) (aCons (eB2 oMod (eVar 3) (eC (.int 4))) (aCons (eB2 oDiv (eVar 1) (eC (.int 300))) aNil))))) [some (.lst (Rs.map rd)), some (.int c), some (.lst (Rs.map rd)), some (.int (w : Nat)), some (.int (k : Nat)), none] = .ok (.nx [some (.lst (Rs.map rd)), some (.int c), some (.lst ((Rs.map rd).set k x)), some (.int (w : Nat)), some (.int (k : Nat)), none]) :=
      sSub_nat (l := Rs.map rd) (d := x) (j := (k : Nat)) (n := k) rfl (eCall4_of rfl rfl (eB2_of rfl rfl (oMod_int (by decide))) (eB2_of rfl rfl d300) hx) rfl (ixN_nat (by rw [hl]; exact hk))
    refine ⟨.lst ((Rs.map rd).set k x), step_nx s1 (step_nx s2 (sIfF11 (t5 _ _) (sIfF11 t4 (step_nx s4 (sIfF11 t6 (step_nx s7 rfl)))))), ?_⟩
    rcases cx with cx | rfl
    · exact refuse h hk cx
    · have em : (Rs.map rd).set k (rd (k + 1, Rs[k].2)) = (Rs.set k (k + 1, Rs[k].2)).map rd := by rw [List.map_set]
      rw [em]
      have mem : ∀ y, y ∈ Rs.set k (k + 1, Rs[k].2) → y ∈ Rs ∨ y = (k + 1, Rs[k].2) := fun y hy => List.mem_or_eq_of_mem_set hy
      refine tinit_round (k := k + 1) (by simp; omega) (fun y hy => ?_) (fun y hy => ?_) (by omega) (by simp; omega) fun l hl => noWay (S := fun x => x = k + 1) (by omega) (fun x y hx hy => ?_) hl rfl
      · rcases mem y hy with hy | rfl
        · exact h.prc y hy
        · exact h.prc Rs[k] (List.getElem_mem hk)
      · rw [List.length_set]
        rcases mem y hy with hy | rfl
        · exact h.to y hy
        · exact hk
      · subst hx
        rw [Nat.add_sub_cancel, List.getElem?_set_self hk] at hy
        injection hy with hy
        rw [← hy]
theorem refused_eq {x : D} (h : f_tinit 0 0 [x] = .error (.raise 0)) : f__law_refused [x] = .ok (.bl true) := by
  have m := mk_no h
  have i1 : isxS (xnm xs 0) (.own "ShareError") = true := by decide +kernel
  have i2 : isxS (xnm xs 0) (.own "NoTree") = true := by decide +kernel
  have i3 : isxS (xnm xs 0) (.own "NoPlace") = false := by decide +kernel
  have i4 : isxS (xnm xs 0) (.ty "ValueError") = true := by decide +kernel
  have mk : eMkN 0 (.cons (.o .s) .nil) f_Tree___init__ (aCons (eVar 0) aNil) [some x, some (.bl false), none] = .error (.raise 0) := by
    unfold eMkN
    rw [aC_of (d := x) rfl (rfl : aNil _ = .ok []), bnd_ok, m]
    rfl
  simp [f__law_refused, s__law_refused, sTry, xEx, mk, i1, i2, i3, i4, hd__law_refused_0, eIsE]
theorem law_plain (ns : List Int) (hn : ns.length ≤ 63) : f_law [.scr ns] = .ok (.bl true) := by
  obtain ⟨T, Rs, hR, eR⟩ := troads_eq ns
  have h := hR.tre
  have lt : Rs.length ≤ 20 := by have := hR.few; have := hR.len; omega
  have hl : (Rs.map rd).length = Rs.length := by simp
  have c4 : f_cell [.scr ns, .int 4] = .ok (.int (cellAt ns 4)) := cell_eq ns 4
  have c5 : f_cell [.scr ns, .int 5] = .ok (.int (cellAt ns 5)) := cell_eq ns 5
  generalize cellAt ns 4 = c at c4
  generalize cellAt ns 5 = c' at c5
  have p29 : oPow (.int 10) (.int 29) = some (.int 100000000000000000000000000000) := rfl
  have m1 := Int.fmod_nonneg_of_pos c (b := 100000000000000000000000000000) (by decide)
  have n0 := noroad_eq (Rs := Rs) (k := 0) (.inl (by decide))
  have n1 := noroad_eq (Rs := Rs) (k := -1) (.inl (by decide))
  have n2 := noroad_eq (Rs := Rs) (k := Rs.length + 1) (.inr (by omega))
  have n3 := noroad_eq (Rs := Rs) (k := Rs.length + 2 + c.fmod 100000000000000000000000000000) (.inr (by omega))
  have tl := tells_eq h
  obtain ⟨x, sx, rx⟩ := spoilt_eq h lt c'
  have rf := refused_eq rx
  have mo := mk_ok h
  have fd : fldFl [.lst (Rs.map rd)] (.cons (.o .s) .nil) = true := by
    have : flat.flatL (Rs.map rd) = true := flat_rds Rs
    show (flat.flatL (Rs.map rd) && true) = true
    rw [this]; rfl
  have mk : ∀ a0 a1 a3 a4 a5, eMkN 0 (.cons (.o .s) .nil) f_Tree___init__ (aCons (eVar 2) aNil) [a0, a1, some (.lst (Rs.map rd)), a3, a4, a5] = .ok (tree 0 Rs) := fun a0 a1 a3 a4 a5 => by
    unfold eMkN
    rw [aC_of (d := .lst (Rs.map rd)) rfl (rfl : aNil _ = .ok []), bnd_ok, mo, bnd_ok]
    dsimp only [tree]
    rw [if_pos ⟨rfl, fd⟩]
  have ne : oNe (.lst (Rs.map rd)) (.lst (Rs.map rd)) = some (.bl false) := oNe_self (pl_rds Rs)
  unfold tree at *
  generalize Rs.map rd = RD at *
  unfold f_law
  rw [runF_ap]
  show endR (s_law [some (.scr ns), none, none, none, none, none]) = _
  unfold s_law
  refine step_nx (en' := [some (.scr ns), some (.lst RD), none, none, none, none]) (by simp [x_roads, eR]) ?_
  refine step_nx (en' := [some (.scr ns), some (.lst RD), some (.lst RD), none, none, none]) rfl ?_
  refine step_nx (en' := [some (.scr ns), some (.lst RD), some (.lst RD), some (.obj 0 [.lst RD]), none, none]) (sAs_of (mk _ _ _ _ _)) ?_
  refine step_nx (en' := [some (.scr ns), some (.lst RD), some (.lst RD), some (.obj 0 [.lst RD]), none, none]) (by simp [ne, tl]) ?_
  refine step_nx (en' := [some (.scr ns), some (.lst RD), some (.lst []), some (.obj 0 [.lst RD]), none, none]) rfl ?_
  refine step_nx (en' := [some (.scr ns), some (.lst RD), some (.lst []), some (.obj 0 [.lst RD]), some (.int c), none]) (by simp [x_cell, c4]) ?_
  refine step_nx (en' := [some (.scr ns), some (.lst RD), some (.lst []), some (.obj 0 [.lst RD]), some (.int c), some (.int (Rs.length + 2 + c.fmod 100000000000000000000000000000))]) (by
    simp [x_cell, c4, hl, p29, oMod_int, evFor, n0, n1, n2, n3]) ?_
  simp [x_cell, c5, sx, rf, tl]
end Lk11
end
noncomputable section
namespace Lk11
open PySem PySem.Spec PyProof.Rows L2 Pi
section
variable {P : Program} {w : World} {K : PySem.W.Frag} {h : Heap} {mg : Str → Option Value} {base : Heap}
theorem fx (X : K.In h) (Gn : h.Ns mainGlobals mg) (c : He.SaysD faL fnL K) (cx : exL K = true) : Fx (gOf P w K mg base cn xs) where
  b_abs := He.free_ok X Gn (c.fact 23 (f := .free "abs") rfl)
  b_bool := He.free_ok X Gn (c.fact 24 (f := .free "bool") rfl)
  b_enumerate := He.free_ok X Gn (c.fact 25 (f := .free "enumerate") rfl)
  b_int := He.free_ok X Gn (c.fact 26 (f := .free "int") rfl)
  b_isinstance := He.free_ok X Gn (c.fact 27 (f := .free "isinstance") rfl)
  b_len := He.free_ok X Gn (c.fact 28 (f := .free "len") rfl)
  b_list := He.free_ok X Gn (c.fact 29 (f := .free "list") rfl)
  b_min := He.free_ok X Gn (c.fact 30 (f := .free "min") rfl)
  b_range := He.free_ok X Gn (c.fact 31 (f := .free "range") rfl)
  b_tuple := He.free_ok X Gn (c.fact 32 (f := .free "tuple") rfl)
  x_NoTree := xcl_of X Gn 0 rfl (c.fact 33 (f := .glo "NoTree") rfl) (c.fact 34 (f := .exc "NoTree") rfl)
  x_NoPlace := xcl_of X Gn 1 rfl (c.fact 35 (f := .glo "NoPlace") rfl) (c.fact 36 (f := .exc "NoPlace") rfl)
  g_MOST_ROADS := glo_int X Gn (c.fact 40 (f := .int "MOST_ROADS" 40) rfl)
  k_Tree := ⟨He.cls_ok (c.fact 37 (f := .cls "Tree") rfl), rfl, by decide, fun f hf => by
    simp only [List.mem_cons, List.not_mem_nil, or_false] at hf
    subst hf
    · exact He.noat_ok (c.fact 39 (f := .noat "Tree" "kept") rfl)
    , He.glo_ok X Gn (c.fact 38 (f := .glo "Tree") rfl)⟩
  xk := xk_of X Gn (by decide) cx (fun y hy => says_facts c (List.mem_append_right _ (List.mem_map_of_mem hy))) (fun n hn => by
    have : n = "ValueError" := by simpa [cs] using hn
    subst this; decide +kernel)
theorem facts {f : Addr} (X : K.In h) (Gn : h.Ns mainGlobals mg) (hfa : mg ("law" : Str) = some (.ref f)) (c : He.SaysD faL fnL K) (cx : exL K = true) :
    ∃ fd : FuncData, (∀ (s : Shared) (v : Value), BindsTo s fd ⟨[v], []⟩ [("_law_script", v)]) ∧ ∀ base : Heap, K.In base → base.Ns mainGlobals mg → FnOk P w K mg base (L2.CX P w) 7 f fd ["_law_script"] (spLaw K 63) := by
  obtain ⟨fd__law_cell_at, F__law_cell_at⟩ := c.def_ 0 (d := dd__law_cell_at) rfl
  obtain ⟨fd__law_mixed, F__law_mixed⟩ := c.def_ 1 (d := dd__law_mixed) rfl
  obtain ⟨fd__law_numbers, F__law_numbers⟩ := c.def_ 2 (d := dd__law_numbers) rfl
  obtain ⟨fd__law_low, F__law_low⟩ := c.def_ 3 (d := dd__law_low) rfl
  obtain ⟨fd__law_price_by, F__law_price_by⟩ := c.def_ 4 (d := dd__law_price_by) rfl
  obtain ⟨fd__law_roads_by, F__law_roads_by⟩ := c.def_ 5 (d := dd__law_roads_by) rfl
  obtain ⟨fd_divisor, F_divisor⟩ := c.def_ 6 (d := dd_divisor) rfl
  obtain ⟨fd_is_whole, F_is_whole⟩ := c.def_ 7 (d := dd_is_whole) rfl
  obtain ⟨fd_is_ratio, F_is_ratio⟩ := c.def_ 8 (d := dd_is_ratio) rfl
  obtain ⟨fd_is_road, F_is_road⟩ := c.def_ 9 (d := dd_is_road) rfl
  obtain ⟨fd_way_from, F_way_from⟩ := c.def_ 10 (d := dd_way_from) rfl
  obtain ⟨fd_Tree___init__, F_Tree___init__⟩ := c.def_ 11 (d := dd_Tree___init__) rfl
  obtain ⟨fd__law_refused, F__law_refused⟩ := c.def_ 12 (d := dd__law_refused) rfl
  obtain ⟨fd_Tree_roads, F_Tree_roads⟩ := c.def_ 13 (d := dd_Tree_roads) rfl
  obtain ⟨fd_Tree_many, F_Tree_many⟩ := c.def_ 14 (d := dd_Tree_many) rfl
  obtain ⟨fd_Tree_road_at, F_Tree_road_at⟩ := c.def_ 15 (d := dd_Tree_road_at) rfl
  obtain ⟨fd_Tree_leads_to, F_Tree_leads_to⟩ := c.def_ 16 (d := dd_Tree_leads_to) rfl
  obtain ⟨fd_Tree_price, F_Tree_price⟩ := c.def_ 17 (d := dd_Tree_price) rfl
  obtain ⟨fd__law_tells, F__law_tells⟩ := c.def_ 18 (d := dd__law_tells) rfl
  obtain ⟨fd__law_no_road, F__law_no_road⟩ := c.def_ 19 (d := dd__law_no_road) rfl
  obtain ⟨fd__law_bad_road, F__law_bad_road⟩ := c.def_ 20 (d := dd__law_bad_road) rfl
  obtain ⟨fd__law_spoilt, F__law_spoilt⟩ := c.def_ 21 (d := dd__law_spoilt) rfl
  obtain ⟨fd_law, F_law⟩ := c.def_ 22 (d := dd_law) rfl
  have e := hfa.symm.trans (He.glo_ok X Gn (c.fact 22 (f := .glo "law") rfl))
  cases e
  have bl := FunD.bindsA (ps := ["_law_script"]) F_law fun _ _ _ _ _ _ us hl => match us, hl with | [_], _ => rfl
  refine ⟨fd_law, fun s v => bl s [v] rfl, fun base _ _ => ?_⟩
  have h := fx (P := P) (w := w) (base := base) X Gn c cx
  have c__law_cell_at : Cal (gOf P w K mg base cn xs) 1 "_law_cell_at" true 2 f__law_cell_at := fn_cal F__law_cell_at (He.glo_ok X Gn (c.fact 0 (f := .glo "_law_cell_at") rfl)) (C8.fnScope_by (N := n__law_cell_at) (P := ["_law_script", "_law_k"]) (sc := defScope t__law_cell_at) (by decide +kernel)) rfl rfl (FunD.bindsN (ps := ["_law_script", "_law_k"]) F__law_cell_at fun _ _ _ _ _ _ us hl => match us, hl with | [_, _], _ => rfl) (fun X W g => d__law_cell_at h X W g)
  have c__law_mixed : Cal (gOf P w K mg base cn xs) 1 "_law_mixed" true 2 f__law_mixed := fn_cal F__law_mixed (He.glo_ok X Gn (c.fact 1 (f := .glo "_law_mixed") rfl)) (C8.fnScope_by (N := n__law_mixed) (P := ["_law_cell", "_law_k"]) (sc := defScope t__law_mixed) (by decide +kernel)) rfl rfl (FunD.bindsN (ps := ["_law_cell", "_law_k"]) F__law_mixed fun _ _ _ _ _ _ us hl => match us, hl with | [_, _], _ => rfl) (fun X W g => d__law_mixed h X W g)
  have c__law_numbers : Cal (gOf P w K mg base cn xs) 2 "_law_numbers" true 3 f__law_numbers := fn_cal F__law_numbers (He.glo_ok X Gn (c.fact 2 (f := .glo "_law_numbers") rfl)) (C8.fnScope_by (N := n__law_numbers) (P := ["_law_cell", "_law_many", "_law_most"]) (sc := defScope t__law_numbers) (by decide +kernel)) rfl rfl (FunD.bindsN (ps := ["_law_cell", "_law_many", "_law_most"]) F__law_numbers fun _ _ _ _ _ _ us hl => match us, hl with | [_, _, _], _ => rfl) (fun X W g => d__law_numbers h c__law_mixed X W g)
  have c__law_low : Cal (gOf P w K mg base cn xs) 1 "_law_low" true 2 f__law_low := fn_cal F__law_low (He.glo_ok X Gn (c.fact 3 (f := .glo "_law_low") rfl)) (C8.fnScope_by (N := n__law_low) (P := ["_law_top", "_law_bottom"]) (sc := defScope t__law_low) (by decide +kernel)) rfl rfl (FunD.bindsN (ps := ["_law_top", "_law_bottom"]) F__law_low fun _ _ _ _ _ _ us hl => match us, hl with | [_, _], _ => rfl) (fun X W g => d__law_low h X W g)
  have c__law_price_by : Cal (gOf P w K mg base cn xs) 2 "_law_price_by" true 2 f__law_price_by := fn_cal F__law_price_by (He.glo_ok X Gn (c.fact 4 (f := .glo "_law_price_by") rfl)) (C8.fnScope_by (N := n__law_price_by) (P := ["_law_number", "_law_wide"]) (sc := defScope t__law_price_by) (by decide +kernel)) rfl rfl (FunD.bindsN (ps := ["_law_number", "_law_wide"]) F__law_price_by fun _ _ _ _ _ _ us hl => match us, hl with | [_, _], _ => rfl) (fun X W g => d__law_price_by h c__law_low X W g)
  have c__law_roads_by : Cal (gOf P w K mg base cn xs) 3 "_law_roads_by" true 2 f__law_roads_by := fn_cal F__law_roads_by (He.glo_ok X Gn (c.fact 5 (f := .glo "_law_roads_by") rfl)) (C8.fnScope_by (N := n__law_roads_by) (P := ["_law_script", "_law_most"]) (sc := defScope t__law_roads_by) (by decide +kernel)) rfl rfl (FunD.bindsN (ps := ["_law_script", "_law_most"]) F__law_roads_by fun _ _ _ _ _ _ us hl => match us, hl with | [_, _], _ => rfl) (fun X W g => d__law_roads_by h c__law_cell_at c__law_numbers c__law_price_by X W g)
  have c_divisor : Cal (gOf P w K mg base cn xs) 1 "divisor" true 2 f_divisor := fn_cal F_divisor (He.glo_ok X Gn (c.fact 6 (f := .glo "divisor") rfl)) (C8.fnScope_by (N := n_divisor) (P := ["one", "other"]) (sc := defScope t_divisor) (by decide +kernel)) rfl rfl (FunD.bindsN (ps := ["one", "other"]) F_divisor fun _ _ _ _ _ _ us hl => match us, hl with | [_, _], _ => rfl) (fun X W g => d_divisor h X W g)
  have c_is_whole : Cal (gOf P w K mg base cn xs) 1 "is_whole" true 1 f_is_whole := fn_cal F_is_whole (He.glo_ok X Gn (c.fact 7 (f := .glo "is_whole") rfl)) (C8.fnScope_by (N := n_is_whole) (P := ["thing"]) (sc := defScope t_is_whole) (by decide +kernel)) rfl rfl (FunD.bindsN (ps := ["thing"]) F_is_whole fun _ _ _ _ _ _ us hl => match us, hl with | [_], _ => rfl) (fun X W g => d_is_whole h X W g)
  have c_is_ratio : Cal (gOf P w K mg base cn xs) 2 "is_ratio" true 1 f_is_ratio := fn_cal F_is_ratio (He.glo_ok X Gn (c.fact 8 (f := .glo "is_ratio") rfl)) (C8.fnScope_by (N := n_is_ratio) (P := ["thing"]) (sc := defScope t_is_ratio) (by decide +kernel)) rfl rfl (FunD.bindsN (ps := ["thing"]) F_is_ratio fun _ _ _ _ _ _ us hl => match us, hl with | [_], _ => rfl) (fun X W g => d_is_ratio h c_divisor c_is_whole X W g)
  have c_is_road : Cal (gOf P w K mg base cn xs) 3 "is_road" true 2 f_is_road := fn_cal F_is_road (He.glo_ok X Gn (c.fact 9 (f := .glo "is_road") rfl)) (C8.fnScope_by (N := n_is_road) (P := ["thing", "many"]) (sc := defScope t_is_road) (by decide +kernel)) rfl rfl (FunD.bindsN (ps := ["thing", "many"]) F_is_road fun _ _ _ _ _ _ us hl => match us, hl with | [_, _], _ => rfl) (fun X W g => d_is_road h c_is_ratio c_is_whole X W g)
  have c_way_from : Cal (gOf P w K mg base cn xs) 1 "way_from" true 2 f_way_from := fn_cal F_way_from (He.glo_ok X Gn (c.fact 10 (f := .glo "way_from") rfl)) (C8.fnScope_by (N := n_way_from) (P := ["roads", "k"]) (sc := defScope t_way_from) (by decide +kernel)) rfl rfl (FunD.bindsN (ps := ["roads", "k"]) F_way_from fun _ _ _ _ _ _ us hl => match us, hl with | [_, _], _ => rfl) (fun X W g => d_way_from h X W g)
  have c_Tree___init__ : MakX (gOf P w K mg base cn xs) 4 0 (.m (.cons (.o .s) .nil)) 1 f_Tree___init__ := ⟨_, fd_Tree___init__, _, He.mkr_ok (c.fact 11 (f := .mkr "Tree") rfl), fn_okX (G := gOf P w K mg base cn xs) (shs := [(.m (.cons (.o .s) .nil))]) F_Tree___init__ (C8.fnScope_by (N := n_Tree___init__) (P := ["self", "roads"]) (sc := defScope t_Tree___init__) (by decide +kernel)) rfl rfl (fun X W g => dB_Tree___init__ h c_is_road c_way_from X W g) (fun X W g => dM_Tree___init__ h c_is_road c_way_from X W g) (fun i sh hh => by cases i with | zero => cases hh; rfl | succ i => simp at hh), (FunD.bindsN (ps := ["self", "roads"]) F_Tree___init__ fun _ _ _ _ _ _ us hl => match us, hl with | [_, _], _ => rfl)⟩
  have c__law_refused : Cal (gOf P w K mg base cn xs) 6 "_law_refused" true 1 f__law_refused := fn_cal F__law_refused (He.glo_ok X Gn (c.fact 12 (f := .glo "_law_refused") rfl)) (C8.fnScope_by (N := n__law_refused) (P := ["_law_thing"]) (sc := defScope t__law_refused) (by decide +kernel)) rfl rfl (FunD.bindsN (ps := ["_law_thing"]) F__law_refused fun _ _ _ _ _ _ us hl => match us, hl with | [_], _ => rfl) (fun X W g => d__law_refused h c_Tree___init__ X W g)
  have c_Tree_roads : MetC (gOf P w K mg base cn xs) 1 0 "roads" true 0 f_Tree_roads := ⟨_, fd_Tree_roads, _, He.meth_ok (c.fact 13 (f := .meth "Tree" "roads") rfl), fn_ok (G := gOf P w K mg base cn xs) F_Tree_roads (C8.fnScope_by (N := n_Tree_roads) (P := ["self"]) (sc := defScope t_Tree_roads) (by decide +kernel)) rfl rfl (fun X W g => d_Tree_roads h X W g), (FunD.bindsN (ps := ["self"]) F_Tree_roads fun _ _ _ _ _ _ us hl => match us, hl with | [_], _ => rfl)⟩
  have c_Tree_many : MetC (gOf P w K mg base cn xs) 1 0 "many" true 0 f_Tree_many := ⟨_, fd_Tree_many, _, He.meth_ok (c.fact 14 (f := .meth "Tree" "many") rfl), fn_ok (G := gOf P w K mg base cn xs) F_Tree_many (C8.fnScope_by (N := n_Tree_many) (P := ["self"]) (sc := defScope t_Tree_many) (by decide +kernel)) rfl rfl (fun X W g => d_Tree_many h X W g), (FunD.bindsN (ps := ["self"]) F_Tree_many fun _ _ _ _ _ _ us hl => match us, hl with | [_], _ => rfl)⟩
  have c_Tree_road_at : MetC (gOf P w K mg base cn xs) 1 0 "road_at" true 1 f_Tree_road_at := ⟨_, fd_Tree_road_at, _, He.meth_ok (c.fact 15 (f := .meth "Tree" "road_at") rfl), fn_ok (G := gOf P w K mg base cn xs) F_Tree_road_at (C8.fnScope_by (N := n_Tree_road_at) (P := ["self", "k"]) (sc := defScope t_Tree_road_at) (by decide +kernel)) rfl rfl (fun X W g => d_Tree_road_at h X W g), (FunD.bindsN (ps := ["self", "k"]) F_Tree_road_at fun _ _ _ _ _ _ us hl => match us, hl with | [_, _], _ => rfl)⟩
  have c_Tree_leads_to : MetC (gOf P w K mg base cn xs) 2 0 "leads_to" true 1 f_Tree_leads_to := ⟨_, fd_Tree_leads_to, _, He.meth_ok (c.fact 16 (f := .meth "Tree" "leads_to") rfl), fn_ok (G := gOf P w K mg base cn xs) F_Tree_leads_to (C8.fnScope_by (N := n_Tree_leads_to) (P := ["self", "k"]) (sc := defScope t_Tree_leads_to) (by decide +kernel)) rfl rfl (fun X W g => d_Tree_leads_to h c_Tree_road_at X W g), (FunD.bindsN (ps := ["self", "k"]) F_Tree_leads_to fun _ _ _ _ _ _ us hl => match us, hl with | [_, _], _ => rfl)⟩
  have c_Tree_price : MetC (gOf P w K mg base cn xs) 2 0 "price" true 1 f_Tree_price := ⟨_, fd_Tree_price, _, He.meth_ok (c.fact 17 (f := .meth "Tree" "price") rfl), fn_ok (G := gOf P w K mg base cn xs) F_Tree_price (C8.fnScope_by (N := n_Tree_price) (P := ["self", "k"]) (sc := defScope t_Tree_price) (by decide +kernel)) rfl rfl (fun X W g => d_Tree_price h c_Tree_road_at X W g), (FunD.bindsN (ps := ["self", "k"]) F_Tree_price fun _ _ _ _ _ _ us hl => match us, hl with | [_, _], _ => rfl)⟩
  have c__law_tells : Cal (gOf P w K mg base cn xs) 3 "_law_tells" true 2 f__law_tells := fn_cal F__law_tells (He.glo_ok X Gn (c.fact 18 (f := .glo "_law_tells") rfl)) (C8.fnScope_by (N := n__law_tells) (P := ["_law_tree", "_law_roads"]) (sc := defScope t__law_tells) (by decide +kernel)) rfl rfl (FunD.bindsN (ps := ["_law_tree", "_law_roads"]) F__law_tells fun _ _ _ _ _ _ us hl => match us, hl with | [_, _], _ => rfl) (fun X W g => d__law_tells h c_Tree_roads c_Tree_many c_Tree_leads_to c_Tree_price X W g)
  have c__law_no_road : Cal (gOf P w K mg base cn xs) 3 "_law_no_road" true 2 f__law_no_road := fn_cal F__law_no_road (He.glo_ok X Gn (c.fact 19 (f := .glo "_law_no_road") rfl)) (C8.fnScope_by (N := n__law_no_road) (P := ["_law_tree", "_law_k"]) (sc := defScope t__law_no_road) (by decide +kernel)) rfl rfl (FunD.bindsN (ps := ["_law_tree", "_law_k"]) F__law_no_road fun _ _ _ _ _ _ us hl => match us, hl with | [_, _], _ => rfl) (fun X W g => d__law_no_road h c_Tree_price c_Tree_leads_to X W g)
  have c__law_bad_road : Cal (gOf P w K mg base cn xs) 1 "_law_bad_road" true 4 f__law_bad_road := fn_cal F__law_bad_road (He.glo_ok X Gn (c.fact 20 (f := .glo "_law_bad_road") rfl)) (C8.fnScope_by (N := n__law_bad_road) (P := ["_law_roads", "_law_k", "_law_way", "_law_cell"]) (sc := defScope t__law_bad_road) (by decide +kernel)) rfl rfl (FunD.bindsN (ps := ["_law_roads", "_law_k", "_law_way", "_law_cell"]) F__law_bad_road fun _ _ _ _ _ _ us hl => match us, hl with | [_, _, _, _], _ => rfl) (fun X W g => d__law_bad_road h X W g)
  have c__law_spoilt : Cal (gOf P w K mg base cn xs) 2 "_law_spoilt" false 2 f__law_spoilt := fn_cal F__law_spoilt (He.glo_ok X Gn (c.fact 21 (f := .glo "_law_spoilt") rfl)) (C8.fnScope_by (N := n__law_spoilt) (P := ["_law_roads", "_law_cell"]) (sc := defScope t__law_spoilt) (by decide +kernel)) rfl rfl (FunD.bindsN (ps := ["_law_roads", "_law_cell"]) F__law_spoilt fun _ _ _ _ _ _ us hl => match us, hl with | [_, _], _ => rfl) (fun X W g => d__law_spoilt h c__law_bad_road X W g)
  exact law_ok (fn_ok (G := gOf P w K mg base cn xs) F_law (C8.fnScope_by (N := n_law) (P := ["_law_script"]) (sc := defScope t_law) (by decide +kernel)) rfl rfl (fun X W g => d_law h c__law_roads_by c_Tree___init__ c__law_cell_at c__law_refused c__law_tells c__law_no_road c__law_spoilt X W g)) rfl rfl law_plain
end
end Lk11
end
open PySem PySem.W PySem.Calls PyProof.Rows
theorem PySem.Challenge.cw_roadshare_k11_trees_made_holds : PySem.Challenge.rw_roadshare_k11_trees_made.Holds := by
  w_on; o_law
  refine HandSHeadRun.head_any (r := OpenLaw.row PySem.Challenge.rw_roadshare_k11_trees_made) (q := view (OpenLaw.row PySem.Challenge.rw_roadshare_k11_trees_made).prog [27]) (H := Lk11.hk) (ob := Lk11.ob) (M := 20000) (loose := Lk11.loose) (d := HandSHeadRun.topDef (OpenLaw.row PySem.Challenge.rw_roadshare_k11_trees_made).prog 27) (kwd := []) Lk11.ob_eq
    (by kernel_rfl) (fun s => by kernel_rfl) Lk11.run (by kernel_rfl) (by kernel_rfl) (by kernel_rfl) (by rfl) (by first | assumption | decide +kernel) (by decide +kernel) ⟨rfl, rfl, rfl, rfl, rfl, by decide +kernel⟩ ?hw ?hc
  case hw => w_witness2
  case hc =>
    refine Pi.walk_ofW (l := PySem.Challenge.rw_roadshare_k11_trees_made) (n := 63) (k := 7) (x := "_law_script") (CX := fun w => L2.CX (PySem.Challenge.rw_roadshare_k11_trees_made).prog w) rfl (by decide) (by kernel_rfl) ⟨rfl, by decide, by decide⟩ ?F (fun _ _ _ _ _ z => Pi.noCX z)
    intro w mg fa h Y G hmg0
    obtain ⟨K, KX, c, cx⟩ := Y
    have hmg : mg ("law" : PySem.Str) = some (.ref fa) := by
      have e : (HandSHeadRun.topDef (OpenLaw.row PySem.Challenge.rw_roadshare_k11_trees_made).prog 27).name = ("law" : PySem.Str) := by kernel_rfl
      rw [← e]
      exact hmg0
    obtain ⟨fd, hb, hF⟩ := Lk11.facts (P := (PySem.Challenge.rw_roadshare_k11_trees_made).prog) (w := w) KX G hmg c cx
    exact ⟨K, fd, Pi.spLaw K 63, KX, hb, Pi.law_end, hF⟩
