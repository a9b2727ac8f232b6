import PyProof.Rows.All
import PyProof.ExcBaseAll.Exception
import PyProof.ExcInit
import PyProof.InstStoreFacts
import KE.KNest
import KE.KLam
import KE.KDictSum
import KE.KEqDict
import OpenK.KOwn
import KE.KSortKey
import Wide.FinOn
import OpenK.AllK
import Wide.All
import PySem.Challenge.RW_np0073_01
set_option Elab.async false
set_option autoImplicit false
set_option maxRecDepth 20000
set_option maxHeartbeats 4000000
set_option linter.all false
noncomputable section
namespace Mine
open PySem PySem.W PySem.Calls PyProof.Rows Builtin Builtin.ObjectAttr
theorem D1h{α:Type}{l:List α}{n:Nat}(h:l.length=n+1): ∃a r,l=a::r∧r.length=n:=by
 cases l with
 |nil=>contradiction
 |cons a r=>exact⟨a,r,rfl,Nat.succ.inj h⟩
theorem C7q{α:Type}{l:List α}(h:l.length=1): ∃a,l= [a]:=by
 obtain ⟨a,r,e,h2⟩:=D1h h
 exact⟨a,by simp only [e,List.eq_nil_of_length_eq_zero h2]⟩
theorem B5d{α:Type}{l:List α}(h:l.length=2): ∃a1 a2,l= [a1,a2]:=by
 obtain ⟨a1,r,e,h2⟩:=D1h h
 obtain ⟨a2,e2⟩:=C7q h2
 exact⟨a1,a2,by simp only [e,e2]⟩
theorem C3a{α:Type}{l:List α}(h:l.length=3): ∃a1 a2 a3,l= [a1,a2,a3]:=by
 obtain ⟨a1,r,e,h2⟩:=D1h h
 obtain ⟨a2,a3,e2⟩:=B5d h2
 exact⟨a1,a2,a3,by simp only [e,e2]⟩
theorem D2i{α:Type}{l:List α}(h:l.length=4): ∃a1 a2 a3 a4,l= [a1,a2,a3,a4]:=by
 obtain ⟨a1,r,e,h2⟩:=D1h h
 obtain ⟨a2,a3,a4,e2⟩:=C3a h2
 exact⟨a1,a2,a3,a4,by simp only [e,e2]⟩
theorem D5i{α:Type}{l:List α}(h:l.length=5): ∃a1 a2 a3 a4 a5,l= [a1,a2,a3,a4,a5]:=by
 obtain ⟨a1,r,e,h2⟩:=D1h h
 obtain ⟨a2,a3,a4,a5,e2⟩:=D2i h2
 exact⟨a1,a2,a3,a4,a5,by simp only [e,e2]⟩
theorem D5y{α:Type}{l:List α}(h:l.length=6): ∃a1 a2 a3 a4 a5 a6,l= [a1,a2,a3,a4,a5,a6]:=by
 obtain ⟨a1,r,e,h2⟩:=D1h h
 obtain ⟨a2,a3,a4,a5,a6,e2⟩:=D5i h2
 exact⟨a1,a2,a3,a4,a5,a6,by simp only [e,e2]⟩
theorem Z0{y0:Nat}{y1:Nat}(h0:((y0+ ((20:Nat)* (y1+ (1:Nat))))≤(9000:Nat))):(((y0+ (1:Nat))+ ((20:Nat)*y1))≤(9000:Nat)):=by lia
theorem Z1{y0:Nat}{y1:Nat}(h0:(y0≤(50:Nat)))(h1:(y1=y0)):(y1≤(200:Nat)):=by lia
theorem Z2{y0:Nat}{y1:Nat}(h0:((y0+ (y1+ (1:Nat)))≤(900:Nat))):(y0< (1000:Nat)):=by lia
theorem Z3{y0:Nat}{y1:Nat}(h0:((y0+ (y1+ (1:Nat)))≤(900:Nat))):(((y0+ (1:Nat))+y1)≤(900:Nat)):=by lia
theorem Z4{y0:Nat}{y1:Nat}(h0:((y0+ ((20:Nat)* (y1+ (1:Nat))))≤(9000:Nat))):(((y0+ (3:Nat))+ ((20:Nat)*y1))≤(9000:Nat)):=by lia
theorem Z5{y0:Nat}{y1:Nat}{y2:Nat}(h0:(y0=y1))(h1:(y2<y1)):(y2<y0):=h0▸h1
theorem Z6{y0:Nat}{y1:Nat}(h0:(y0<y1)):(((y1+ (1:Nat))- (y0+ (1:Nat)))< ((y1+ (1:Nat))-y0)):=by lia
theorem Z7{y0:Nat}{y1:Nat}(h0:(y0≤y1))(h1:(¬(y0<y1))):(y0=y1):=by lia
theorem Z8{y0:Nat}(h0:(y0=(7:Nat))):((1:Nat)≤y0):=by lia
theorem Z9{y0:Nat}{y1:Nat}(h0:(y0≤(100000:Nat)))(h1:(y1=y0)):(y1≤(16777216:Nat)):=by lia
theorem Z10{y0:Nat}{y1:Nat}{y2:Nat}(h0:(y0<y1))(h1:(y1=y2)):(y0<y2):=h1▸h0
theorem Z11{y0:Nat}{y1:Nat}{y2:Nat}(h0:(y0≤(100000:Nat)))(h1:(y1=y0))(h2:(y2=(16777216:Nat))):(y1≤y2):=by lia
theorem Z12{y0:Nat}{y1:Nat}{y2:Nat}(h0:(y0=y1))(h1:(y2=y1)):(y0=y2):=h1▸h0
theorem Z13{y0:Nat}(h0:((3:Nat)<y0))(h1:(y0=(1:Nat))):False:=by lia
theorem Z14{y0:Nat}(h0:(y0< (64:Nat))):(y0≤(16777216:Nat)):=by lia
theorem Z15{y0:Nat}{y1:Nat}(h0:(y0≤(63:Nat)))(h1:(y1=y0)):(y1≤(63:Nat)):=h1▸h0
theorem Z16{y0:Nat}{y1:Nat}{y2:Nat}{y3:Nat}(h0:(y0≤y1))(h1:((y2+ ((y3+ (1:Nat))+y1))≤(1000:Nat))):(y0≤(100000:Nat)):=by lia
theorem Z17{y0:Nat}{y1:Nat}(h0:((y0+y1)≤(1000:Nat))):(y0≤(100000:Nat)):=by lia
theorem Z18{y0:Nat}{y1:Nat}{y2:Nat}{y3:Nat}(h0:(y0≤y1))(h1:((y2+ ((y1+ (1:Nat))+y3))≤(1000:Nat))):(y0≤(100000:Nat)):=by lia
theorem Z19{y0:Int}{y1:Int}(h0:(y0<y1))(h1:(y1≤y0)):False:=by lia
theorem Z20{y0:Int}(h0:(¬(y0=(0:Int)))):((Int.natAbs y0)≠(0:Nat)):=by simp [h0]
theorem Z21{y0:Nat}{y1:Nat}{y2:Nat}(h0:(y0≤(1000:Nat)))(h1:((y1+ (y2+ (1:Nat)))=y0)):(y1≤(999:Nat)):=by lia
theorem Z22{y0:Nat}{y1:Nat}{y2:Nat}(h0:((y0+ (y1+ (1:Nat)))=y2)):(((y0+ (1:Nat))+y1)=y2):=by lia
theorem Z23{y0:Int}:(¬(((y0+ (1:Int))+ (1:Int))=(y0+ (1:Int)))):=by lia
theorem Z24{y0:Int}{y1:Int}{y2:Int}{y3:Int}{y4:Int}{y5:Int}(h0:((y0+y1)=y2))(h1:(y3=y4))(h2:(y2=y3)):(((y5-y0)-y1)=(y5-y4)):=by lia
theorem Z25{y0:Int}{y1:Int}(h0:(y0=y1))(h1:((3:Int)≤y1)):((3:Int)≤y0):=h0▸h1
theorem Z26{y0:Int}{y1:Int}(h0:(y0=y1))(h1:((2:Int)≤y1)):((2:Int)≤y0):=h0▸h1
theorem Z27{y0:Int}{y1:Int}{y2:Int}(h0:(y0≤(1000000:Int)))(h1:(y1≤y0))(h2:(y2=y1)):(y2≤(1000000:Int)):=by lia
theorem Z28{y0:Int}(h0:((y0=(1:Int))∨(y0=(2:Int)))):(y0≠(0:Int)):=fun e=>absurd h0 (e▸by decide)
theorem Z29{y0:Int}:(y0< ((y0+ (1:Int))+ (1:Int))):=by lia
theorem Z30{y0:Int}(h0:((y0=(1:Int))∨(y0=(2:Int)))):(y0≠(-(1:Int))):=fun e=>absurd h0 (e▸by decide)
theorem Z31{y0:Int}{y1:Int}(h0:((3:Int)≤y0))(h1:((y0≤(1000000:Int))∧(y1≤(1000000:Int)))):(((0:Int)≤y0)∧(y0≤(1000000:Int))):=by lia
theorem Z32{y0:Int}{y1:Int}(h0:((2:Int)≤y0))(h1:((y1≤(1000000:Int))∧(y0≤(1000000:Int)))):(((0:Int)≤y0)∧(y0≤(1000000:Int))):=by lia
theorem Z33{y0:Int}:(¬(y0=(y0+ (1:Int)))):=by lia
theorem Z34{y0:Nat}(h0:(¬((y0:Int)=(1:Int)))):(¬(y0=(1:Nat))):=fun e=>absurd h0 (e▸by decide)
theorem Z35{y0:Int}{y1:Int}(h0:(y0≤y1)):(¬(y0>y1)):=by simp [h0]
theorem Z36{y0:Int}{y1:Int}{y2:Int}{y3:Int}{y4:Int}{y5:Int}{y6:Int}{y7:Int}(h0:(y0=(0:Int)))(h1:((y0=((y1+y2)-y3))∧((y4=y5)∧(y6=y7)))):(y3=(y1+y2)):=by lia
theorem Z37{y0:Int}{y1:Int}{y2:Int}{y3:Int}{y4:Int}{y5:Int}{y6:Int}{y7:Int}{y8:Int}{y9:Int}(h0:((y0=((y1+y2)-y3))∧((y4=y5)∧(y6=y7))))(h1:(y8=y9)):(((y0-y9)=((y1+y2)- (y3+y8)))∧((y4=y5)∧(y6=y7))):=by lia
theorem Z38{y0:Nat}(h0:(y0< (64:Nat))):(y0≤(1000:Nat)):=by lia
theorem Z39{y0:Nat}(h0:(y0< (64:Nat))):(y0≤(100000:Nat)):=by lia
theorem Z40{y0:Int}(h0:((0:Int)≤y0)):((0:Int)≤((y0+ (1:Int))- (1:Int))):=by simp [h0]
theorem Z41{y0:Int}(h0:((0:Int)≤y0)):((0:Int)≤((y0+ (1:Int))+ (1:Int))):=by lia
theorem Z42{y0:Int}{y1:Nat}(h0:((y0+ ((2:Int)* ((y1+ (1:Nat)):Int)))≤(11:Int))):((((y0+ (1:Int))+ (1:Int))+ ((2:Int)* (y1:Int)))≤(11:Int)):=by lia
theorem Z43{y0:Nat}{y1:Int}(h0:((0:Nat)<y0))(h1:(y1< (y0:Int))):((Int.toNat y1)<y0):=by lia
theorem Z44{y0:Nat}{y1:Nat}{y2:Int}(h0:(y0≤(9:Nat)))(h1:(y1≤y0))(h2:(y2< (y1:Int))):(y2≤(100000:Int)):=by lia
theorem Z45{y0:Int}(h0:((0:Int)≤y0)):((0:Int)≤((((y0+ (1:Int))+ (1:Int))+ (1:Int))+ (1:Int))):=by lia
theorem Z46{y0:Int}(h0:(y0≤(33:Int))):(((((y0+ (1:Int))+ (1:Int))+ (1:Int))+ (1:Int))≤(40:Int)):=by lia
theorem mi{α:Type _}{a:α}{l:List α}(i:Nat)(h:l[i]? =some a):a∈l:=List.mem_of_getElem? h
theorem k1{α:Type _}{a:α}{G:Prop}(h:none=some a):G:=nomatch h
theorem k2{α:Type _}{a:α}{G:Prop}(h:some a=none):G:=nomatch h
theorem k3{α:Type _}{a:α}{G:Prop}(h:a∈([]:List α)):G:=nomatch h
theorem k4{G:Prop}(h:false=true):G:=nomatch h
theorem k5{α:Type _}{a:α}{l:List α}{G:Prop}(h: []=a::l):G:=nomatch h
theorem k6{α:Type _}{a:α}{l:List α}{G:Prop}(h:a::l= []):G:=nomatch h
theorem k12{b:Bool}{G:Prop}(h:b=true)(e:b=false):G:=k4 (e.symm.trans h)
theorem k13{α:Type _}{o:Option α}{a:α}{G:Prop}(h:o=some a)(e:o=none):G:=k1 (e.symm.trans h)
theorem k14{f:String}{l:List String}(e:l.elem f=true):f∈l:=List.elem_iff.mp e
theorem k7{α:Type _}{l:List α}{i:Nat}{a:α}{G:Prop}(h:l[i]? =some a)(e:l[i]? =none):G:=k1 (e.symm.trans h)
theorem A0f{A1 A2:Prop}{G:Prop}(h:A1∧A2)(f:A1→A2→G):G:=f h.1 h.2
theorem A1a{A1 A2 A3:Prop}{G:Prop}(h:A1∧A2∧A3)(f:A1→A2→A3→G):G:=f h.1 h.2.1 h.2.2
theorem C3g{A1 A2 A3 A4:Prop}{G:Prop}(h:A1∧A2∧A3∧A4)(f:A1→A2→A3→A4→G):G:=f h.1 h.2.1 h.2.2.1 h.2.2.2
theorem C8q{A1 A2 A3 A4 A5:Prop}{G:Prop}(h:A1∧A2∧A3∧A4∧A5)(f:A1→A2→A3→A4→A5→G):G:=f h.1 h.2.1 h.2.2.1 h.2.2.2.1 h.2.2.2.2
theorem B8a{A1 A2 A3 A4 A5 A6:Prop}{G:Prop}(h:A1∧A2∧A3∧A4∧A5∧A6)(f:A1→A2→A3→A4→A5→A6→G):G:=f h.1 h.2.1 h.2.2.1 h.2.2.2.1 h.2.2.2.2.1 h.2.2.2.2.2
theorem A0i{α1:Sort _}{A1:α1→Prop}{G:Prop}(h: ∃(x1:α1),A1 x1)(f: ∀(x1:α1),A1 x1→G):G:=h.elim fun x1 h=>f x1 h
theorem A0e{α1:Sort _}{A1 A2:α1→Prop}{G:Prop}(h: ∃(x1:α1),A1 x1∧A2 x1)(f: ∀(x1:α1),A1 x1→A2 x1→G):G:=h.elim fun x1 h=>f x1 h.1 h.2
theorem A2u{α1:Sort _}{A1 A2 A3:α1→Prop}{G:Prop}(h: ∃(x1:α1),A1 x1∧A2 x1∧A3 x1)(f: ∀(x1:α1),A1 x1→A2 x1→A3 x1→G):G:=h.elim fun x1 h=>f x1 h.1 h.2.1 h.2.2
theorem A6d{α1:Sort _}{A1 A2 A3 A4:α1→Prop}{G:Prop}(h: ∃(x1:α1),A1 x1∧A2 x1∧A3 x1∧A4 x1)(f: ∀(x1:α1),A1 x1→A2 x1→A3 x1→A4 x1→G):G:=h.elim fun x1 h=>f x1 h.1 h.2.1 h.2.2.1 h.2.2.2
theorem C8p{α1:Sort _}{A1 A2 A3 A4 A5:α1→Prop}{G:Prop}(h: ∃(x1:α1),A1 x1∧A2 x1∧A3 x1∧A4 x1∧A5 x1)(f: ∀(x1:α1),A1 x1→A2 x1→A3 x1→A4 x1→A5 x1→G):G:=h.elim fun x1 h=>f x1 h.1 h.2.1 h.2.2.1 h.2.2.2.1 h.2.2.2.2
theorem A5l{α1:Sort _}{A1 A2 A3 A4 A5 A6:α1→Prop}{G:Prop}(h: ∃(x1:α1),A1 x1∧A2 x1∧A3 x1∧A4 x1∧A5 x1∧A6 x1)(f: ∀(x1:α1),A1 x1→A2 x1→A3 x1→A4 x1→A5 x1→A6 x1→G):G:=h.elim fun x1 h=>f x1 h.1 h.2.1 h.2.2.1 h.2.2.2.1 h.2.2.2.2.1 h.2.2.2.2.2
theorem B5w{α1 α2:Sort _}{A1:α1→α2→Prop}{G:Prop}(h: ∃(x1:α1) (x2:α2),A1 x1 x2)(f: ∀(x1:α1) (x2:α2),A1 x1 x2→G):G:=h.elim fun x1 h=>h.elim fun x2 h=>f x1 x2 h
theorem A3w{α1 α2:Sort _}{A1 A2:α1→α2→Prop}{G:Prop}(h: ∃(x1:α1) (x2:α2),A1 x1 x2∧A2 x1 x2)(f: ∀(x1:α1) (x2:α2),A1 x1 x2→A2 x1 x2→G):G:=h.elim fun x1 h=>h.elim fun x2 h=>f x1 x2 h.1 h.2
theorem A1x{α1 α2:Sort _}{A1 A2 A3:α1→α2→Prop}{G:Prop}(h: ∃(x1:α1) (x2:α2),A1 x1 x2∧A2 x1 x2∧A3 x1 x2)(f: ∀(x1:α1) (x2:α2),A1 x1 x2→A2 x1 x2→A3 x1 x2→G):G:=h.elim fun x1 h=>h.elim fun x2 h=>f x1 x2 h.1 h.2.1 h.2.2
theorem B5v{α1 α2:Sort _}{A1 A2 A3 A4:α1→α2→Prop}{G:Prop}(h: ∃(x1:α1) (x2:α2),A1 x1 x2∧A2 x1 x2∧A3 x1 x2∧A4 x1 x2)(f: ∀(x1:α1) (x2:α2),A1 x1 x2→A2 x1 x2→A3 x1 x2→A4 x1 x2→G):G:=h.elim fun x1 h=>h.elim fun x2 h=>f x1 x2 h.1 h.2.1 h.2.2.1 h.2.2.2
theorem D0x{α1 α2:Sort _}{A1 A2 A3 A4 A5:α1→α2→Prop}{G:Prop}(h: ∃(x1:α1) (x2:α2),A1 x1 x2∧A2 x1 x2∧A3 x1 x2∧A4 x1 x2∧A5 x1 x2)(f: ∀(x1:α1) (x2:α2),A1 x1 x2→A2 x1 x2→A3 x1 x2→A4 x1 x2→A5 x1 x2→G):G:=h.elim fun x1 h=>h.elim fun x2 h=>f x1 x2 h.1 h.2.1 h.2.2.1 h.2.2.2.1 h.2.2.2.2
theorem B7z{α1 α2:Sort _}{A1 A2 A3 A4 A5 A6:α1→α2→Prop}{G:Prop}(h: ∃(x1:α1) (x2:α2),A1 x1 x2∧A2 x1 x2∧A3 x1 x2∧A4 x1 x2∧A5 x1 x2∧A6 x1 x2)(f: ∀(x1:α1) (x2:α2),A1 x1 x2→A2 x1 x2→A3 x1 x2→A4 x1 x2→A5 x1 x2→A6 x1 x2→G):G:=h.elim fun x1 h=>h.elim fun x2 h=>f x1 x2 h.1 h.2.1 h.2.2.1 h.2.2.2.1 h.2.2.2.2.1 h.2.2.2.2.2
theorem A8c{α1 α2 α3:Sort _}{A1 A2:α1→α2→α3→Prop}{G:Prop}(h: ∃(x1:α1) (x2:α2) (x3:α3),A1 x1 x2 x3∧A2 x1 x2 x3)(f: ∀(x1:α1) (x2:α2) (x3:α3),A1 x1 x2 x3→A2 x1 x2 x3→G):G:=h.elim fun x1 h=>h.elim fun x2 h=>h.elim fun x3 h=>f x1 x2 x3 h.1 h.2
theorem A3m{α1 α2 α3:Sort _}{A1 A2 A3:α1→α2→α3→Prop}{G:Prop}(h: ∃(x1:α1) (x2:α2) (x3:α3),A1 x1 x2 x3∧A2 x1 x2 x3∧A3 x1 x2 x3)(f: ∀(x1:α1) (x2:α2) (x3:α3),A1 x1 x2 x3→A2 x1 x2 x3→A3 x1 x2 x3→G):G:=h.elim fun x1 h=>h.elim fun x2 h=>h.elim fun x3 h=>f x1 x2 x3 h.1 h.2.1 h.2.2
theorem C8o{α1 α2 α3:Sort _}{A1 A2 A3 A4:α1→α2→α3→Prop}{G:Prop}(h: ∃(x1:α1) (x2:α2) (x3:α3),A1 x1 x2 x3∧A2 x1 x2 x3∧A3 x1 x2 x3∧A4 x1 x2 x3)(f: ∀(x1:α1) (x2:α2) (x3:α3),A1 x1 x2 x3→A2 x1 x2 x3→A3 x1 x2 x3→A4 x1 x2 x3→G):G:=h.elim fun x1 h=>h.elim fun x2 h=>h.elim fun x3 h=>f x1 x2 x3 h.1 h.2.1 h.2.2.1 h.2.2.2
theorem D3d{α1 α2 α3:Sort _}{A1 A2 A3 A4 A5:α1→α2→α3→Prop}{G:Prop}(h: ∃(x1:α1) (x2:α2) (x3:α3),A1 x1 x2 x3∧A2 x1 x2 x3∧A3 x1 x2 x3∧A4 x1 x2 x3∧A5 x1 x2 x3)(f: ∀(x1:α1) (x2:α2) (x3:α3),A1 x1 x2 x3→A2 x1 x2 x3→A3 x1 x2 x3→A4 x1 x2 x3→A5 x1 x2 x3→G):G:=h.elim fun x1 h=>h.elim fun x2 h=>h.elim fun x3 h=>f x1 x2 x3 h.1 h.2.1 h.2.2.1 h.2.2.2.1 h.2.2.2.2
theorem B4q{α1 α2 α3:Sort _}{A1 A2 A3 A4 A5 A6:α1→α2→α3→Prop}{G:Prop}(h: ∃(x1:α1) (x2:α2) (x3:α3),A1 x1 x2 x3∧A2 x1 x2 x3∧A3 x1 x2 x3∧A4 x1 x2 x3∧A5 x1 x2 x3∧A6 x1 x2 x3)(f: ∀(x1:α1) (x2:α2) (x3:α3),A1 x1 x2 x3→A2 x1 x2 x3→A3 x1 x2 x3→A4 x1 x2 x3→A5 x1 x2 x3→A6 x1 x2 x3→G):G:=h.elim fun x1 h=>h.elim fun x2 h=>h.elim fun x3 h=>f x1 x2 x3 h.1 h.2.1 h.2.2.1 h.2.2.2.1 h.2.2.2.2.1 h.2.2.2.2.2
theorem C3f{α1 α2 α3 α4:Sort _}{A1 A2:α1→α2→α3→α4→Prop}{G:Prop}(h: ∃(x1:α1) (x2:α2) (x3:α3) (x4:α4),A1 x1 x2 x3 x4∧A2 x1 x2 x3 x4)(f: ∀(x1:α1) (x2:α2) (x3:α3) (x4:α4),A1 x1 x2 x3 x4→A2 x1 x2 x3 x4→G):G:=h.elim fun x1 h=>h.elim fun x2 h=>h.elim fun x3 h=>h.elim fun x4 h=>f x1 x2 x3 x4 h.1 h.2
theorem B4p{α1 α2 α3 α4:Sort _}{A1 A2 A3:α1→α2→α3→α4→Prop}{G:Prop}(h: ∃(x1:α1) (x2:α2) (x3:α3) (x4:α4),A1 x1 x2 x3 x4∧A2 x1 x2 x3 x4∧A3 x1 x2 x3 x4)(f: ∀(x1:α1) (x2:α2) (x3:α3) (x4:α4),A1 x1 x2 x3 x4→A2 x1 x2 x3 x4→A3 x1 x2 x3 x4→G):G:=h.elim fun x1 h=>h.elim fun x2 h=>h.elim fun x3 h=>h.elim fun x4 h=>f x1 x2 x3 x4 h.1 h.2.1 h.2.2
theorem D3c{α1 α2 α3 α4:Sort _}{A1 A2 A3 A4:α1→α2→α3→α4→Prop}{G:Prop}(h: ∃(x1:α1) (x2:α2) (x3:α3) (x4:α4),A1 x1 x2 x3 x4∧A2 x1 x2 x3 x4∧A3 x1 x2 x3 x4∧A4 x1 x2 x3 x4)(f: ∀(x1:α1) (x2:α2) (x3:α3) (x4:α4),A1 x1 x2 x3 x4→A2 x1 x2 x3 x4→A3 x1 x2 x3 x4→A4 x1 x2 x3 x4→G):G:=h.elim fun x1 h=>h.elim fun x2 h=>h.elim fun x3 h=>h.elim fun x4 h=>f x1 x2 x3 x4 h.1 h.2.1 h.2.2.1 h.2.2.2
theorem B5u{α1 α2 α3 α4:Sort _}{A1 A2 A3 A4 A5:α1→α2→α3→α4→Prop}{G:Prop}(h: ∃(x1:α1) (x2:α2) (x3:α3) (x4:α4),A1 x1 x2 x3 x4∧A2 x1 x2 x3 x4∧A3 x1 x2 x3 x4∧A4 x1 x2 x3 x4∧A5 x1 x2 x3 x4)(f: ∀(x1:α1) (x2:α2) (x3:α3) (x4:α4),A1 x1 x2 x3 x4→A2 x1 x2 x3 x4→A3 x1 x2 x3 x4→A4 x1 x2 x3 x4→A5 x1 x2 x3 x4→G):G:=h.elim fun x1 h=>h.elim fun x2 h=>h.elim fun x3 h=>h.elim fun x4 h=>f x1 x2 x3 x4 h.1 h.2.1 h.2.2.1 h.2.2.2.1 h.2.2.2.2
theorem C1j{α1 α2 α3 α4:Sort _}{A1 A2 A3 A4 A5 A6:α1→α2→α3→α4→Prop}{G:Prop}(h: ∃(x1:α1) (x2:α2) (x3:α3) (x4:α4),A1 x1 x2 x3 x4∧A2 x1 x2 x3 x4∧A3 x1 x2 x3 x4∧A4 x1 x2 x3 x4∧A5 x1 x2 x3 x4∧A6 x1 x2 x3 x4)(f: ∀(x1:α1) (x2:α2) (x3:α3) (x4:α4),A1 x1 x2 x3 x4→A2 x1 x2 x3 x4→A3 x1 x2 x3 x4→A4 x1 x2 x3 x4→A5 x1 x2 x3 x4→A6 x1 x2 x3 x4→G):G:=h.elim fun x1 h=>h.elim fun x2 h=>h.elim fun x3 h=>h.elim fun x4 h=>f x1 x2 x3 x4 h.1 h.2.1 h.2.2.1 h.2.2.2.1 h.2.2.2.2.1 h.2.2.2.2.2
theorem A7s{α1 α2 α3 α4 α5:Sort _}{A1:α1→α2→α3→α4→α5→Prop}{G:Prop}(h: ∃(x1:α1) (x2:α2) (x3:α3) (x4:α4) (x5:α5),A1 x1 x2 x3 x4 x5)(f: ∀(x1:α1) (x2:α2) (x3:α3) (x4:α4) (x5:α5),A1 x1 x2 x3 x4 x5→G):G:=h.elim fun x1 h=>h.elim fun x2 h=>h.elim fun x3 h=>h.elim fun x4 h=>h.elim fun x5 h=>f x1 x2 x3 x4 x5 h
theorem D0w{α1 α2 α3 α4 α5:Sort _}{A1 A2 A3 A4:α1→α2→α3→α4→α5→Prop}{G:Prop}(h: ∃(x1:α1) (x2:α2) (x3:α3) (x4:α4) (x5:α5),A1 x1 x2 x3 x4 x5∧A2 x1 x2 x3 x4 x5∧A3 x1 x2 x3 x4 x5∧A4 x1 x2 x3 x4 x5)(f: ∀(x1:α1) (x2:α2) (x3:α3) (x4:α4) (x5:α5),A1 x1 x2 x3 x4 x5→A2 x1 x2 x3 x4 x5→A3 x1 x2 x3 x4 x5→A4 x1 x2 x3 x4 x5→G):G:=h.elim fun x1 h=>h.elim fun x2 h=>h.elim fun x3 h=>h.elim fun x4 h=>h.elim fun x5 h=>f x1 x2 x3 x4 x5 h.1 h.2.1 h.2.2.1 h.2.2.2
theorem D0v{α1 α2 α3 α4 α5:Sort _}{A1 A2 A3 A4 A5:α1→α2→α3→α4→α5→Prop}{G:Prop}(h: ∃(x1:α1) (x2:α2) (x3:α3) (x4:α4) (x5:α5),A1 x1 x2 x3 x4 x5∧A2 x1 x2 x3 x4 x5∧A3 x1 x2 x3 x4 x5∧A4 x1 x2 x3 x4 x5∧A5 x1 x2 x3 x4 x5)(f: ∀(x1:α1) (x2:α2) (x3:α3) (x4:α4) (x5:α5),A1 x1 x2 x3 x4 x5→A2 x1 x2 x3 x4 x5→A3 x1 x2 x3 x4 x5→A4 x1 x2 x3 x4 x5→A5 x1 x2 x3 x4 x5→G):G:=h.elim fun x1 h=>h.elim fun x2 h=>h.elim fun x3 h=>h.elim fun x4 h=>h.elim fun x5 h=>f x1 x2 x3 x4 x5 h.1 h.2.1 h.2.2.1 h.2.2.2.1 h.2.2.2.2
theorem C8n{α1 α2 α3 α4 α5:Sort _}{A1 A2 A3 A4 A5 A6:α1→α2→α3→α4→α5→Prop}{G:Prop}(h: ∃(x1:α1) (x2:α2) (x3:α3) (x4:α4) (x5:α5),A1 x1 x2 x3 x4 x5∧A2 x1 x2 x3 x4 x5∧A3 x1 x2 x3 x4 x5∧A4 x1 x2 x3 x4 x5∧A5 x1 x2 x3 x4 x5∧A6 x1 x2 x3 x4 x5)(f: ∀(x1:α1) (x2:α2) (x3:α3) (x4:α4) (x5:α5),A1 x1 x2 x3 x4 x5→A2 x1 x2 x3 x4 x5→A3 x1 x2 x3 x4 x5→A4 x1 x2 x3 x4 x5→A5 x1 x2 x3 x4 x5→A6 x1 x2 x3 x4 x5→G):G:=h.elim fun x1 h=>h.elim fun x2 h=>h.elim fun x3 h=>h.elim fun x4 h=>h.elim fun x5 h=>f x1 x2 x3 x4 x5 h.1 h.2.1 h.2.2.1 h.2.2.2.1 h.2.2.2.2.1 h.2.2.2.2.2
theorem A8b{A1 A2:Prop}(h1:A1)(h2:A2):A1∧A2:=⟨h1,h2⟩
theorem A4x{A1 A2 A3:Prop}(h1:A1)(h2:A2)(h3:A3):A1∧A2∧A3:=⟨h1,h2,h3⟩
theorem D2t{A1 A2 A3 A4:Prop}(h1:A1)(h2:A2)(h3:A3)(h4:A4):A1∧A2∧A3∧A4:=⟨h1,h2,h3,h4⟩
theorem D4r{A1 A2 A3 A4 A5:Prop}(h1:A1)(h2:A2)(h3:A3)(h4:A4)(h5:A5):A1∧A2∧A3∧A4∧A5:=⟨h1,h2,h3,h4,h5⟩
theorem D0r{A1 A2 A3 A4 A5 A6:Prop}(h1:A1)(h2:A2)(h3:A3)(h4:A4)(h5:A5)(h6:A6):A1∧A2∧A3∧A4∧A5∧A6:=⟨h1,h2,h3,h4,h5,h6⟩
theorem D2s{α1:Sort _}{A1:α1→Prop}(x1:α1)(h1:A1 x1): ∃(x1:α1),A1 x1:=⟨x1,h1⟩
theorem A1f{α1:Sort _}{A1 A2:α1→Prop}(x1:α1)(h1:A1 x1)(h2:A2 x1): ∃(x1:α1),A1 x1∧A2 x1:=⟨x1,h1,h2⟩
theorem A8n{α1:Sort _}{A1 A2 A3:α1→Prop}(x1:α1)(h1:A1 x1)(h2:A2 x1)(h3:A3 x1): ∃(x1:α1),A1 x1∧A2 x1∧A3 x1:=⟨x1,h1,h2,h3⟩
theorem B7l{α1:Sort _}{A1 A2 A3 A4:α1→Prop}(x1:α1)(h1:A1 x1)(h2:A2 x1)(h3:A3 x1)(h4:A4 x1): ∃(x1:α1),A1 x1∧A2 x1∧A3 x1∧A4 x1:=⟨x1,h1,h2,h3,h4⟩
theorem D0q{α1:Sort _}{A1 A2 A3 A4 A5:α1→Prop}(x1:α1)(h1:A1 x1)(h2:A2 x1)(h3:A3 x1)(h4:A4 x1)(h5:A5 x1): ∃(x1:α1),A1 x1∧A2 x1∧A3 x1∧A4 x1∧A5 x1:=⟨x1,h1,h2,h3,h4,h5⟩
theorem B0f{α1:Sort _}{A1 A2 A3 A4 A5 A6:α1→Prop}(x1:α1)(h1:A1 x1)(h2:A2 x1)(h3:A3 x1)(h4:A4 x1)(h5:A5 x1)(h6:A6 x1): ∃(x1:α1),A1 x1∧A2 x1∧A3 x1∧A4 x1∧A5 x1∧A6 x1:=⟨x1,h1,h2,h3,h4,h5,h6⟩
theorem C8b{α1 α2:Sort _}{A1:α1→α2→Prop}(x1:α1)(x2:α2)(h1:A1 x1 x2): ∃(x1:α1) (x2:α2),A1 x1 x2:=⟨x1,x2,h1⟩
theorem D0p{α1 α2:Sort _}{A1 A2:α1→α2→Prop}(x1:α1)(x2:α2)(h1:A1 x1 x2)(h2:A2 x1 x2): ∃(x1:α1) (x2:α2),A1 x1 x2∧A2 x1 x2:=⟨x1,x2,h1,h2⟩
theorem B2o{α1 α2:Sort _}{A1 A2 A3:α1→α2→Prop}(x1:α1)(x2:α2)(h1:A1 x1 x2)(h2:A2 x1 x2)(h3:A3 x1 x2): ∃(x1:α1) (x2:α2),A1 x1 x2∧A2 x1 x2∧A3 x1 x2:=⟨x1,x2,h1,h2,h3⟩
theorem B9r{α1 α2:Sort _}{A1 A2 A3 A4:α1→α2→Prop}(x1:α1)(x2:α2)(h1:A1 x1 x2)(h2:A2 x1 x2)(h3:A3 x1 x2)(h4:A4 x1 x2): ∃(x1:α1) (x2:α2),A1 x1 x2∧A2 x1 x2∧A3 x1 x2∧A4 x1 x2:=⟨x1,x2,h1,h2,h3,h4⟩
theorem C8a{α1 α2:Sort _}{A1 A2 A3 A4 A5:α1→α2→Prop}(x1:α1)(x2:α2)(h1:A1 x1 x2)(h2:A2 x1 x2)(h3:A3 x1 x2)(h4:A4 x1 x2)(h5:A5 x1 x2): ∃(x1:α1) (x2:α2),A1 x1 x2∧A2 x1 x2∧A3 x1 x2∧A4 x1 x2∧A5 x1 x2:=⟨x1,x2,h1,h2,h3,h4,h5⟩
theorem C7z{α1 α2:Sort _}{A1 A2 A3 A4 A5 A6:α1→α2→Prop}(x1:α1)(x2:α2)(h1:A1 x1 x2)(h2:A2 x1 x2)(h3:A3 x1 x2)(h4:A4 x1 x2)(h5:A5 x1 x2)(h6:A6 x1 x2): ∃(x1:α1) (x2:α2),A1 x1 x2∧A2 x1 x2∧A3 x1 x2∧A4 x1 x2∧A5 x1 x2∧A6 x1 x2:=⟨x1,x2,h1,h2,h3,h4,h5,h6⟩
theorem B5k{α1 α2 α3:Sort _}{A1 A2:α1→α2→α3→Prop}(x1:α1)(x2:α2)(x3:α3)(h1:A1 x1 x2 x3)(h2:A2 x1 x2 x3): ∃(x1:α1) (x2:α2) (x3:α3),A1 x1 x2 x3∧A2 x1 x2 x3:=⟨x1,x2,x3,h1,h2⟩
theorem D0o{α1 α2 α3:Sort _}{A1 A2 A3:α1→α2→α3→Prop}(x1:α1)(x2:α2)(x3:α3)(h1:A1 x1 x2 x3)(h2:A2 x1 x2 x3)(h3:A3 x1 x2 x3): ∃(x1:α1) (x2:α2) (x3:α3),A1 x1 x2 x3∧A2 x1 x2 x3∧A3 x1 x2 x3:=⟨x1,x2,x3,h1,h2,h3⟩
theorem D4q{α1 α2 α3:Sort _}{A1 A2 A3 A4:α1→α2→α3→Prop}(x1:α1)(x2:α2)(x3:α3)(h1:A1 x1 x2 x3)(h2:A2 x1 x2 x3)(h3:A3 x1 x2 x3)(h4:A4 x1 x2 x3): ∃(x1:α1) (x2:α2) (x3:α3),A1 x1 x2 x3∧A2 x1 x2 x3∧A3 x1 x2 x3∧A4 x1 x2 x3:=⟨x1,x2,x3,h1,h2,h3,h4⟩
theorem D4p{α1 α2 α3:Sort _}{A1 A2 A3 A4 A5:α1→α2→α3→Prop}(x1:α1)(x2:α2)(x3:α3)(h1:A1 x1 x2 x3)(h2:A2 x1 x2 x3)(h3:A3 x1 x2 x3)(h4:A4 x1 x2 x3)(h5:A5 x1 x2 x3): ∃(x1:α1) (x2:α2) (x3:α3),A1 x1 x2 x3∧A2 x1 x2 x3∧A3 x1 x2 x3∧A4 x1 x2 x3∧A5 x1 x2 x3:=⟨x1,x2,x3,h1,h2,h3,h4,h5⟩
theorem D2r{α1 α2 α3:Sort _}{A1 A2 A3 A4 A5 A6:α1→α2→α3→Prop}(x1:α1)(x2:α2)(x3:α3)(h1:A1 x1 x2 x3)(h2:A2 x1 x2 x3)(h3:A3 x1 x2 x3)(h4:A4 x1 x2 x3)(h5:A5 x1 x2 x3)(h6:A6 x1 x2 x3): ∃(x1:α1) (x2:α2) (x3:α3),A1 x1 x2 x3∧A2 x1 x2 x3∧A3 x1 x2 x3∧A4 x1 x2 x3∧A5 x1 x2 x3∧A6 x1 x2 x3:=⟨x1,x2,x3,h1,h2,h3,h4,h5,h6⟩
theorem D4o{α1 α2 α3 α4:Sort _}{A1 A2:α1→α2→α3→α4→Prop}(x1:α1)(x2:α2)(x3:α3)(x4:α4)(h1:A1 x1 x2 x3 x4)(h2:A2 x1 x2 x3 x4): ∃(x1:α1) (x2:α2) (x3:α3) (x4:α4),A1 x1 x2 x3 x4∧A2 x1 x2 x3 x4:=⟨x1,x2,x3,x4,h1,h2⟩
theorem C1f{α1 α2 α3 α4:Sort _}{A1 A2 A3:α1→α2→α3→α4→Prop}(x1:α1)(x2:α2)(x3:α3)(x4:α4)(h1:A1 x1 x2 x3 x4)(h2:A2 x1 x2 x3 x4)(h3:A3 x1 x2 x3 x4): ∃(x1:α1) (x2:α2) (x3:α3) (x4:α4),A1 x1 x2 x3 x4∧A2 x1 x2 x3 x4∧A3 x1 x2 x3 x4:=⟨x1,x2,x3,x4,h1,h2,h3⟩
theorem D4n{α1 α2 α3 α4:Sort _}{A1 A2 A3 A4:α1→α2→α3→α4→Prop}(x1:α1)(x2:α2)(x3:α3)(x4:α4)(h1:A1 x1 x2 x3 x4)(h2:A2 x1 x2 x3 x4)(h3:A3 x1 x2 x3 x4)(h4:A4 x1 x2 x3 x4): ∃(x1:α1) (x2:α2) (x3:α3) (x4:α4),A1 x1 x2 x3 x4∧A2 x1 x2 x3 x4∧A3 x1 x2 x3 x4∧A4 x1 x2 x3 x4:=⟨x1,x2,x3,x4,h1,h2,h3,h4⟩
theorem C5p{α1 α2 α3 α4:Sort _}{A1 A2 A3 A4 A5:α1→α2→α3→α4→Prop}(x1:α1)(x2:α2)(x3:α3)(x4:α4)(h1:A1 x1 x2 x3 x4)(h2:A2 x1 x2 x3 x4)(h3:A3 x1 x2 x3 x4)(h4:A4 x1 x2 x3 x4)(h5:A5 x1 x2 x3 x4): ∃(x1:α1) (x2:α2) (x3:α3) (x4:α4),A1 x1 x2 x3 x4∧A2 x1 x2 x3 x4∧A3 x1 x2 x3 x4∧A4 x1 x2 x3 x4∧A5 x1 x2 x3 x4:=⟨x1,x2,x3,x4,h1,h2,h3,h4,h5⟩
theorem D4m{α1 α2 α3 α4:Sort _}{A1 A2 A3 A4 A5 A6:α1→α2→α3→α4→Prop}(x1:α1)(x2:α2)(x3:α3)(x4:α4)(h1:A1 x1 x2 x3 x4)(h2:A2 x1 x2 x3 x4)(h3:A3 x1 x2 x3 x4)(h4:A4 x1 x2 x3 x4)(h5:A5 x1 x2 x3 x4)(h6:A6 x1 x2 x3 x4): ∃(x1:α1) (x2:α2) (x3:α3) (x4:α4),A1 x1 x2 x3 x4∧A2 x1 x2 x3 x4∧A3 x1 x2 x3 x4∧A4 x1 x2 x3 x4∧A5 x1 x2 x3 x4∧A6 x1 x2 x3 x4:=⟨x1,x2,x3,x4,h1,h2,h3,h4,h5,h6⟩
theorem C1e{α1 α2 α3 α4 α5:Sort _}{A1:α1→α2→α3→α4→α5→Prop}(x1:α1)(x2:α2)(x3:α3)(x4:α4)(x5:α5)(h1:A1 x1 x2 x3 x4 x5): ∃(x1:α1) (x2:α2) (x3:α3) (x4:α4) (x5:α5),A1 x1 x2 x3 x4 x5:=⟨x1,x2,x3,x4,x5,h1⟩
theorem C5o{α1 α2 α3 α4 α5:Sort _}{A1 A2 A3 A4:α1→α2→α3→α4→α5→Prop}(x1:α1)(x2:α2)(x3:α3)(x4:α4)(x5:α5)(h1:A1 x1 x2 x3 x4 x5)(h2:A2 x1 x2 x3 x4 x5)(h3:A3 x1 x2 x3 x4 x5)(h4:A4 x1 x2 x3 x4 x5): ∃(x1:α1) (x2:α2) (x3:α3) (x4:α4) (x5:α5),A1 x1 x2 x3 x4 x5∧A2 x1 x2 x3 x4 x5∧A3 x1 x2 x3 x4 x5∧A4 x1 x2 x3 x4 x5:=⟨x1,x2,x3,x4,x5,h1,h2,h3,h4⟩
theorem D2q{α1 α2 α3 α4 α5:Sort _}{A1 A2 A3 A4 A5:α1→α2→α3→α4→α5→Prop}(x1:α1)(x2:α2)(x3:α3)(x4:α4)(x5:α5)(h1:A1 x1 x2 x3 x4 x5)(h2:A2 x1 x2 x3 x4 x5)(h3:A3 x1 x2 x3 x4 x5)(h4:A4 x1 x2 x3 x4 x5)(h5:A5 x1 x2 x3 x4 x5): ∃(x1:α1) (x2:α2) (x3:α3) (x4:α4) (x5:α5),A1 x1 x2 x3 x4 x5∧A2 x1 x2 x3 x4 x5∧A3 x1 x2 x3 x4 x5∧A4 x1 x2 x3 x4 x5∧A5 x1 x2 x3 x4 x5:=⟨x1,x2,x3,x4,x5,h1,h2,h3,h4,h5⟩
theorem D0n{α1 α2 α3 α4 α5:Sort _}{A1 A2 A3 A4 A5 A6:α1→α2→α3→α4→α5→Prop}(x1:α1)(x2:α2)(x3:α3)(x4:α4)(x5:α5)(h1:A1 x1 x2 x3 x4 x5)(h2:A2 x1 x2 x3 x4 x5)(h3:A3 x1 x2 x3 x4 x5)(h4:A4 x1 x2 x3 x4 x5)(h5:A5 x1 x2 x3 x4 x5)(h6:A6 x1 x2 x3 x4 x5): ∃(x1:α1) (x2:α2) (x3:α3) (x4:α4) (x5:α5),A1 x1 x2 x3 x4 x5∧A2 x1 x2 x3 x4 x5∧A3 x1 x2 x3 x4 x5∧A4 x1 x2 x3 x4 x5∧A5 x1 x2 x3 x4 x5∧A6 x1 x2 x3 x4 x5:=⟨x1,x2,x3,x4,x5,h1,h2,h3,h4,h5,h6⟩
inductive Key where
 |tree|treeD|wdic|win (n:Int)|winD (n:Int)|kid (n:Int) (v:Nat)|deck
 |loc (f:Nat)|cel (f i:Nat)|tmp (f k:Nat)|rl (f:Nat)|rlD (f:Nat)|tab
 deriving DecidableEq
inductive AV where
 |none|bool (b:Bool)|int (i:Int)|str (x:Str)|ref (k:Key)
 |lst (l:List AV)|tup (l:List AV)|dic (ks:List Int) (l:List AV)|rul (r c:Int)|opq
theorem k8{a b:Key}{G:Prop}(h:a=b)(e:(a.ctorIdx == b.ctorIdx)=false):G:=by subst h;simp at e
theorem k9{a b:Key}(e:(a.ctorIdx == b.ctorIdx)=false): ¬a=b:=fun h=>k8 h e
noncomputable abbrev Gh:=Addr→Option Obj
noncomputable abbrev Gy:=Addr→Option (Obj×Bool)
structure SP where
 prog:Program
 w:World
 K:Frag
 base:Heap
 mg:Str→Option Value
 mb:Str→Option Value
 CT:Addr
 CW:Addr
 CR:Addr
 CL:Addr
 os:OsState
mutual
noncomputable def A1i(S:SP)(P:Key→Prop)(z:Gh)(Φ:Key→Addr):AV→Value→Prop
 | .none,v=>v= .none
 | .bool b,v=>v= .bool b
 | .int i,v=> ∃t,v= .int i t
 | .str x,v=> ∃t,v= .str x t
 | .ref k,v=>P k∧v= .ref (Φ k)
 | .lst l,v=> ∃a its n,v= .ref a∧z a=some ⟨.type "list",none,.seq its n,#[]⟩∧A0c S P z Φ l its.toList
 | .tup l,v=> ∃a its n,v= .ref a∧z a=some ⟨.type "tuple",none,.seq its n,#[]⟩∧A0c S P z Φ l its.toList
 | .dic ks l,v=> ∃a o vs,v= .ref a∧a≠sysModules∧z a=some o∧o.IsDictOf (intKind S.prog S.w) (ks.zip vs)∧ks.length=vs.length∧A0c S P z Φ l vs
 | .rul r c,v=> ∃a d es n t1 t2,v= .ref a∧z a=some (instObj S.CR d)∧z d=some (dictOf es n)∧getL "rows" es=some (some (.int r t1))∧getL "columns" es=some (some (.int c t2))
 | .opq,_=>True
noncomputable def A0c(S:SP)(P:Key→Prop)(z:Gh)(Φ:Key→Addr):List AV→List Value→Prop
 | [],vs=>vs= []
 |a::l,vs=> ∃v r,vs=v::r∧A1i S P z Φ a v∧A0c S P z Φ l r
end
section
variable {S:SP} {P:Key→Prop} {z:Gh} {Φ:Key→Addr}
theorem B5f{i:Int}{t:Tok}:A1i S P z Φ (.int i) (.int i t):=Exists.intro (p:=fun t'=>Value.int i t= .int i t') t rfl
theorem D5u{x:Str}{t:Tok}:A1i S P z Φ (.str x) (.str x t):=Exists.intro (p:=fun t'=>Value.str x t= .str x t') t rfl
theorem A7i{b:Bool}:A1i S P z Φ (.bool b) (.bool b):=rfl
theorem B6u:A1i S P z Φ .none .none:=rfl
theorem C4e{k:Key}(h:P k):A1i S P z Φ (.ref k) (.ref (Φ k)):=And.intro h rfl
theorem C6l{l:List AV}{a:Addr}{its:Array Value}{n:Nat}(h:z a=some ⟨.type "list",none,.seq its n,#[]⟩)(h':A0c S P z Φ l its.toList):A1i S P z Φ (.lst l) (.ref a):=(⟨a,its,n,rfl,h,h'⟩: ∃a' its n,Value.ref a= .ref a'∧z a'=some ⟨.type "list",none,.seq its n,#[]⟩∧A0c S P z Φ l its.toList)
theorem D5e{l:List AV}{a:Addr}{its:Array Value}{n:Nat}(h:z a=some ⟨.type "tuple",none,.seq its n,#[]⟩)(h':A0c S P z Φ l its.toList):A1i S P z Φ (.tup l) (.ref a):=(⟨a,its,n,rfl,h,h'⟩: ∃a' its n,Value.ref a= .ref a'∧z a'=some ⟨.type "tuple",none,.seq its n,#[]⟩∧A0c S P z Φ l its.toList)
theorem D4b{ks:List Int}{l:List AV}{a:Addr}{o:Obj}{vs:List Value}(h1:a≠sysModules)(h2:z a=some o)(h3:o.IsDictOf (intKind S.prog S.w) (ks.zip vs))(h4:ks.length=vs.length)(h5:A0c S P z Φ l vs):A1i S P z Φ (.dic ks l) (.ref a):=(⟨a,o,vs,rfl,h1,h2,h3,h4,h5⟩: ∃a' o vs,Value.ref a= .ref a'∧a'≠sysModules∧z a'=some o∧o.IsDictOf (intKind S.prog S.w) (ks.zip vs)∧ks.length=vs.length∧A0c S P z Φ l vs)
theorem D5f{r c:Int}{a d:Addr}{es:List DictEntry}{n:Nat}{t1 t2:Tok}(h1:z a=some (instObj S.CR d))(h2:z d=some (dictOf es n))(h3:getL "rows" es=some (some (.int r t1)))(h4:getL "columns" es=some (some (.int c t2))):A1i S P z Φ (.rul r c) (.ref a):=(⟨a,d,es,n,t1,t2,rfl,h1,h2,h3,h4⟩: ∃a' d es n t1 t2,Value.ref a= .ref a'∧z a'=some (instObj S.CR d)∧z d=some (dictOf es n)∧getL "rows" es=some (some (.int r t1))∧getL "columns" es=some (some (.int c t2)))
theorem A0r{i:Int}{v:Value}(h:A1i S P z Φ (.int i) v): ∃t,v= .int i t:=h
theorem A9r{x:Str}{v:Value}(h:A1i S P z Φ (.str x) v): ∃t,v= .str x t:=h
theorem A8d{b:Bool}{v:Value}(h:A1i S P z Φ (.bool b) v):v= .bool b:=h
theorem A7z{v:Value}(h:A1i S P z Φ .none v):v= .none:=h
theorem A1s{k:Key}{v:Value}(h:A1i S P z Φ (.ref k) v):P k∧v= .ref (Φ k):=h
theorem A8h{l:List AV}{v:Value}(h:A1i S P z Φ (.lst l) v): ∃a its n,v= .ref a∧z a=some ⟨.type "list",none,.seq its n,#[]⟩∧A0c S P z Φ l its.toList:=h
theorem A7p{l:List AV}{v:Value}(h:A1i S P z Φ (.tup l) v): ∃a its n,v= .ref a∧z a=some ⟨.type "tuple",none,.seq its n,#[]⟩∧A0c S P z Φ l its.toList:=h
theorem B1b{ks:List Int}{l:List AV}{v:Value}(h:A1i S P z Φ (.dic ks l) v): ∃a o vs,v= .ref a∧a≠sysModules∧z a=some o∧o.IsDictOf (intKind S.prog S.w) (ks.zip vs)∧ks.length=vs.length∧A0c S P z Φ l vs:=h
theorem C4q{r c:Int}{v:Value}(h:A1i S P z Φ (.rul r c) v): ∃a d es n t1 t2,v= .ref a∧z a=some (instObj S.CR d)∧z d=some (dictOf es n)∧getL "rows" es=some (some (.int r t1))∧getL "columns" es=some (some (.int c t2)):=h
theorem A4z{vs:List Value}(h:A0c S P z Φ [] vs):vs= []:=h
theorem A0c.nil:A0c S P z Φ [] []:=rfl
theorem A0c.cons{a:AV}{l:List AV}{v:Value}{vs:List Value}(h:A1i S P z Φ a v)(h':A0c S P z Φ l vs):A0c S P z Φ (a::l) (v::vs):=(⟨v,vs,rfl,h,h'⟩: ∃v' r,v::vs=v'::r∧A1i S P z Φ a v'∧A0c S P z Φ l r)
theorem A0c.uncons{a:AV}{l:List AV}{vs:List Value}(h:A0c S P z Φ (a::l) vs): ∃v r,vs=v::r∧A1i S P z Φ a v∧A0c S P z Φ l r:=h
end
structure Ext0 (P:Key→Prop) (z:Gh) (Φ:Key→Addr) (P':Key→Prop) (z':Gh) (Φ':Key→Addr):Prop where
 p: ∀k,P k→P' k
 z: ∀a o,z a=some o→z' a=some o
 f: ∀k,P k→Φ' k=Φ k
theorem Ext0.refl{P z Φ}:Ext0 P z Φ P z Φ:=⟨fun _ h=>h,fun _ _ h=>h,fun _ _=>rfl⟩
theorem Ext0.trans{P z Φ P' z' Φ' P'' z'' Φ''}(x:Ext0 P z Φ P' z' Φ')(y:Ext0 P' z' Φ' P'' z'' Φ''):Ext0 P z Φ P'' z'' Φ'':=
 ⟨fun k h=>y.p k (x.p k h),fun a o h=>y.z a o (x.z a o h),fun k h=>(y.f k (x.p k h)).trans (x.f k h)⟩
mutual
theorem A1i.mono{S:SP}{P z Φ P' z' Φ'}(x:Ext0 P z Φ P' z' Φ'): ∀(a:AV) (v:Value),A1i S P z Φ a v→A1i S P' z' Φ' a v
 | .none,_,h=>h
 | .bool _,_,h=>h
 | .int _,_,h=>h
 | .str _,_,h=>h
 | .ref k,v,h=>by
  obtain ⟨h1,rfl⟩:=A1s h
  rw [←x.f k h1];exact C4e (x.p k h1)
 | .lst l,v,h=>by
  refine A3m (A8h h) fun a its n e hz hl=>?_
  subst e;exact C6l (x.z _ _ hz) (A0c.mono x l _ hl)
 | .tup l,v,h=>by
  refine A3m (A7p h) fun a its n e hz hl=>?_
  subst e;exact D5e (x.z _ _ hz) (A0c.mono x l _ hl)
 | .dic ks l,v,h=>by
  refine B4q (B1b h) fun a o vs e hn hz hd hk hl=>?_
  subst e;exact D4b hn (x.z _ _ hz) hd hk (A0c.mono x l _ hl)
 | .rul r c,v,h=>by
  obtain ⟨a,d,es,n,t1,t2,rfl,hz,hd,g1,g2⟩:=C4q h
  exact D5f (x.z _ _ hz) (x.z _ _ hd) g1 g2
 | .opq,_,h=>h
theorem A0c.mono{S:SP}{P z Φ P' z' Φ'}(x:Ext0 P z Φ P' z' Φ'): ∀(l:List AV) (vs:List Value),A0c S P z Φ l vs→A0c S P' z' Φ' l vs
 | [],_,h=>h
 |a::l,vs,h=>by
  refine A1x h.uncons fun v r e h1 h2=>?_
  subst e;exact .cons (A1i.mono x a v h1) (A0c.mono x l r h2)
end
inductive CO where
 |inst (C:Addr) (d:Key)
 |ns (m:List (Str×AV))
 |list (l:List AV)
 |idic (ks:List Int) (l:List AV)
 |locs (ns:List Str) (vs:List (Option AV))
 |cell (v:Option AV)
 |tabo (b:Bool)
noncomputable def A8j(S:SP)(P:Key→Prop)(z:Gh)(Φ:Key→Addr):List (Str×AV)→List DictEntry→Prop
 | [],es=>es= []
 | (x,a)::m,es=> ∃e r t,es=e::r∧e.key= .str x t∧A1i S P z Φ a e.val∧A8j S P z Φ m r
theorem A8j.un{S:SP}{P:Key→Prop}{z:Gh}{Φ:Key→Addr}{x:Str}{a:AV}{m:List (Str×AV)}{es:List DictEntry}(h:A8j S P z Φ ((x,a)::m) es): ∃e r t,es=e::r∧e.key= .str x t∧A1i S P z Φ a e.val∧A8j S P z Φ m r:=h
theorem A8j.cons{S:SP}{P:Key→Prop}{z:Gh}{Φ:Key→Addr}{x:Str}{a:AV}{m:List (Str×AV)}{e:DictEntry}{r:List DictEntry}{t:Tok}(h1:e.key= .str x t)(h2:A1i S P z Φ a e.val)(h3:A8j S P z Φ m r):A8j S P z Φ ((x,a)::m) (e::r):=(⟨e,r,t,rfl,h1,h2,h3⟩: ∃e' r' t,e::r=e'::r'∧e'.key= .str x t∧A1i S P z Φ a e'.val∧A8j S P z Φ m r')
theorem A8j.e0{S:SP}{P:Key→Prop}{z:Gh}{Φ:Key→Addr}{es}:A8j S P z Φ [] es=(es= []):=rfl
theorem A8j.e1{S:SP}{P:Key→Prop}{z:Gh}{Φ:Key→Addr}{x a m es}:A8j S P z Φ ((x,a)::m) es=(∃e r t,es=e::r∧e.key= .str x t∧A1i S P z Φ a e.val∧A8j S P z Φ m r):=rfl
theorem A8j.mono{S:SP}{P z Φ P' z' Φ'}(x:Ext0 P z Φ P' z' Φ'): ∀(m:List (Str×AV)) (es:List DictEntry),A8j S P z Φ m es→A8j S P' z' Φ' m es
 | [],_,h=>h
 | (y,a)::m,es,h=>by
  simp only [A8j.e0,A8j.e1]at h ⊢;obtain ⟨e,r,t,he,hk,hv,hr⟩:=h
  exact D4q e r t he hk (A1i.mono x _ _ hv) (A8j.mono x m r hr)
noncomputable def D1f(S:SP)(P:Key→Prop)(z:Gh)(Φ:Key→Addr):Option AV→Option Value→Prop
 |none,v=>v=none
 |some a,v=> ∃u,v=some u∧A1i S P z Φ a u
noncomputable def C3n(S:SP)(P:Key→Prop)(z:Gh)(Φ:Key→Addr)(h:Heap)(a:Addr):CO→Prop
 | .inst C d=>h.get? a=some (instObj C (Φ d))∧P d
 | .ns m=> ∃es n,h.get? a=some (dictOf es n)∧A8j S P z Φ m es
 | .list l=> ∃its n,h.get? a=some ⟨.type "list",none,.seq its n,#[]⟩∧A0c S P z Φ l its.toList
 | .idic ks l=> ∃vs,a≠sysModules∧h.DictOf (intKind S.prog S.w) a (ks.zip vs)∧ks.length=vs.length∧A0c S P z Φ l vs
 | .locs ns vs=> ∃mm,h.Ns a mm∧ ∀(i:Nat) (x:Str) (av:AV),ns[i]? =some x→vs[i]? =some (some av)→ ∃v,mm x=some v∧A1i S P z Φ av v
 | .cell v=> ∃u,h.IsCell a u∧D1f S P z Φ v u
 | .tabo b=> ∃ps,h.get? a=some (tabObj ps)∧(b=true→ps= #[])∧CodeHd S.base 392 a
theorem C3n.live{S:SP}{P z Φ}{h:Heap}{a:Addr}{o:CO}(x:C3n S P z Φ h a o): ∃oo,h.get? a=some oo:=by
 cases o with
 |inst C d=>exact⟨_,x.1⟩
 |ns m=>obtain ⟨_,_,e,_⟩:=x;exact⟨_,e⟩
 |list l=>obtain ⟨_,_,e,_⟩:=x;exact⟨_,e⟩
 |idic ks l=>obtain ⟨_,_,hd,_⟩:=x;obtain ⟨o,e,_⟩:=Heap.dictOf_iff.mp hd;exact⟨_,e⟩
 |locs ns vs=>obtain ⟨_,⟨o,_,_,e,_⟩,_⟩:=x;exact⟨_,e⟩
 |cell v=>obtain ⟨_,⟨o,e,_⟩,_⟩:=x;exact⟨_,e⟩
 |tabo b=>obtain ⟨ps,e,_⟩:=x;exact⟨_,e⟩
theorem C3n.mono{S:SP}{P z Φ P' z' Φ'}{h h':Heap}{a:Addr}{o:CO}(x:Ext0 P z Φ P' z' Φ')(k: ∀oo,h.get? a=some oo→h'.get? a=some oo)
  (r:C3n S P z Φ h a o):C3n S P' z' Φ' h' a o:=by
 cases o with
 |inst C d=>exact⟨by rw [x.f d r.2];exact k _ r.1,x.p d r.2⟩
 |ns m=>obtain ⟨es,n,e,he⟩:=r;exact⟨es,n,k _ e,A8j.mono x _ _ he⟩
 |list l=>obtain ⟨its,n,e,hl⟩:=r;exact⟨its,n,k _ e,A0c.mono x _ _ hl⟩
 |idic ks l=>obtain ⟨vs,hn,hd,hk,hl⟩:=r;exact⟨vs,hn,hd.at fun o e=>k o e,hk,A0c.mono x _ _ hl⟩
 |locs ns vs=>
  refine A0e r fun mm y9a hm=>?_
  try clear r
  obtain ⟨o,es,ep,e,r1⟩:=y9a
  exact A1f mm ⟨o,es,ep,k _ e,r1⟩ (fun i y av hy hv=>let ⟨v,h1,h2⟩:=hm i y av hy hv;⟨v,h1,A1i.mono x _ _ h2⟩)
 |cell v=>
  refine A0e r fun u y9a hr=>?_
  try clear r
  obtain ⟨o,e,hd⟩:=y9a
  refine A1f u ⟨o,k _ e,hd⟩ ?_
  cases v with
  |none=>exact hr
  |some a=>obtain ⟨u',e',h'⟩:=hr;exact⟨u',e',A1i.mono x _ _ h'⟩
 |tabo b=>obtain ⟨ps,e,h⟩:=r;exact⟨ps,k _ e,h⟩
noncomputable def YIn(h:Heap)(a:Addr)(o:Obj×Bool):Prop:=h.get? a=some o.1∨(o.2=true∧ ∃sl,h.get? a=some {o.1 with slots:=sl})
theorem YIn.live{h:Heap}{a:Addr}{o:Obj×Bool}(x:YIn h a o): ∃oo,h.get? a=some oo:=by
 rcases x with e| ⟨_,sl,e⟩ <;> exact⟨_,e⟩
theorem YIn.keep{h h':Heap}{a:Addr}{o:Obj×Bool}(x:YIn h a o)(k: ∀oo,h.get? a=some oo→h'.get? a=some oo):YIn h' a o:=by
 rcases x with e| ⟨c,sl,e⟩
 ·exact .inl (k _ e)
 ·exact .inr ⟨c,sl,k _ e⟩
structure Core (S:SP) (ob:Key→Option CO) (P:Key→Prop) (z:Gh) (y:Gy) (Φ:Key→Addr) (s:Shared):Prop where
 gens:s.gens= #[]
 os:s.os=S.os
 base: ∀a o,S.base.get? a=some o→z a=some o
 zin: ∀a o,z a=some o→s.heap.get? a=some o
 yin: ∀a o,y a=some o→YIn s.heap a o
 zy: ∀a o,y a=some o→z a=none
 al: ∀k o,ob k=some o→P k
 rep: ∀k o,ob k=some o→C3n S P z Φ s.heap (Φ k) o
 zf: ∀k o,ob k=some o→z (Φ k)=none
 yf: ∀k o,ob k=some o→y (Φ k)=none
 inj: ∀k k' o o',ob k=some o→ob k'=some o'→Φ k=Φ k'→k=k'
namespace Core
variable {S:SP} {ob ob':Key→Option CO} {P P':Key→Prop} {z:Gh} {y:Gy} {Φ Φ':Key→Addr} {s:Shared}
theorem grow(c:Core S ob P z y Φ s)(h':Heap)(tk:Nat)(d:Drawn)(k: ∀a o,s.heap.get? a=some o→h'.get? a=some o):Core S ob P z y Φ {s with heap:=h',toks:=tk,drawn:=d}:=
 ⟨c.gens,c.os,c.base,fun a o e=>k _ _ (c.zin a o e),fun a o e=>(c.yin a o e).keep (k a),c.zy,c.al,fun q o e=>(c.rep q o e).mono Ext0.refl (k _),c.zf,c.yf,c.inj⟩
theorem tok(c:Core S ob P z y Φ s)(tk:Nat):Core S ob P z y Φ {s with toks:=tk}:=c.grow s.heap tk s.drawn fun _ _ e=>e
theorem drop(c:Core S ob P z y Φ s)(h: ∀k o,ob' k=some o→ob k=some o):Core S ob' P z y Φ s:=
 ⟨c.gens,c.os,c.base,c.zin,c.yin,c.zy,fun k o e=>c.al k o (h k o e),fun k o e=>c.rep k o (h k o e),fun k o e=>c.zf k o (h k o e),fun k o e=>c.yf k o (h k o e),
 fun k k' o o' e e'=>c.inj k k' o o' (h k o e) (h k' o' e')⟩
theorem freezeNew(c:Core S ob P z y Φ s)(h':Heap)(tk:Nat)(d:Drawn)(k: ∀a o,s.heap.get? a=some o→h'.get? a=some o){b:Addr}{o:Obj}(hb:s.heap.get? b=none)(ho:h'.get? b=some o):
  Core S ob P (fun a=>if a=b then some o else z a) y Φ {s with heap:=h',toks:=tk,drawn:=d}∧Ext0 P z Φ P (fun a=>if a=b then some o else z a) Φ:=by
 have zb:z b=none:=by
  cases q:z b with
  |none=>rfl
  |some o'=>rw [c.zin b o' q]at hb;exact k2 hb
 have x:Ext0 P z Φ P (fun a=>if a=b then some o else z a) Φ:=⟨fun _ h=>h,fun a o' e=>by
  by_cases q:a=b
  ·subst q;rw [zb]at e;exact k1 e
  ·simp [q,if_false];exact e,fun _ _=>rfl⟩
 refine⟨⟨c.gens,c.os,fun a o' e=>x.z _ _ (c.base a o' e),fun a o' e=>?_,fun a o' e=>(c.yin a o' e).keep (k a),fun a o' e=>?_,c.al,fun q o' e=>(c.rep q o' e).mono x (k _),fun q o' e=>?_,c.yf,c.inj⟩,x⟩
 ·by_cases q:a=b
  ·subst q;simp only [if_true]at e;cases e;exact ho
  ·simp [q,if_false]at e;exact k _ _ (c.zin _ _ e)
 ·by_cases q:a=b
  ·subst q;obtain ⟨oo,e'⟩:=(c.yin a o' e).live;rw [hb]at e';exact k1 e'
  ·simp [q,if_false];exact c.zy a o' e
 ·by_cases q':Φ q=b
  ·obtain ⟨oo,e'⟩:=(c.rep q o' e).live;rw [q',hb]at e';exact k1 e'
  ·simp [q',if_false];exact c.zf q o' e
theorem alloc(c:Core S ob P z y Φ s)(h':Heap)(tk:Nat)(d:Drawn)(k: ∀a o,s.heap.get? a=some o→h'.get? a=some o){b:Addr}{q:Key}{o:CO}(hb:s.heap.get? b=none)(hq: ¬P q)
  (ho:C3n S (fun j=>P j∨j=q) z (fun j=>if j=q then b else Φ j) h' b o) (hob: ∀j,j≠q→ob' j=ob j) (hobq:ob' q=some o):
  Core S ob' (fun j=>P j∨j=q) z y (fun j=>if j=q then b else Φ j) {s with heap:=h',toks:=tk,drawn:=d}∧Ext0 P z Φ (fun j=>P j∨j=q) z (fun j=>if j=q then b else Φ j):=by
 have x:Ext0 P z Φ (fun j=>P j∨j=q) z (fun j=>if j=q then b else Φ j):=⟨fun _ h=> .inl h,fun _ _ e=>e,fun j hj=>by
  have:j≠q:=fun e=>hq (e▸hj)
  simp [this,if_false]⟩
 refine⟨⟨c.gens,c.os,c.base,fun a o' e=>k _ _ (c.zin a o' e),fun a o' e=>(c.yin a o' e).keep (k a),c.zy,fun j o' e=>?_,fun j o' e=>?_,fun j o' e=>?_,fun j o' e=>?_,fun j j' o1 o2 e1 e2 e=>?_⟩,x⟩
 ·by_cases h:j=q
  ·exact .inr h
  ·rw [hob j h]at e;exact .inl (c.al j o' e)
 ·by_cases h:j=q
  ·subst h;rw [hobq]at e;cases e;simp [if_true];exact ho
  ·rw [hob j h]at e;simp [h,if_false];exact(c.rep j o' e).mono x (k _)
 ·by_cases h:j=q
  ·subst h;simp [if_true]
   cases hz:z b with
   |none=>rfl
   |some o3=>rw [c.zin b o3 hz]at hb;exact k2 hb
  ·rw [hob j h]at e;simp [h,if_false];exact c.zf j o' e
 ·by_cases h:j=q
  ·subst h;simp [if_true]
   cases hy:y b with
   |none=>rfl
   |some o3=>obtain ⟨oo,e'⟩:=(c.yin b o3 hy).live;rw [hb]at e';exact k1 e'
  ·rw [hob j h]at e;simp [h,if_false];exact c.yf j o' e
 ·by_cases h:j=q <;> by_cases h':j'=q
  ·simp only [h,h']
  ·rw [hob j' h']at e2
   simp [h,h',if_true,if_false]at e
   obtain ⟨oo,e'⟩:=(c.rep j' o2 e2).live;rw [←e,hb]at e';exact k1 e'
  ·rw [hob j h]at e1
   simp [h,h',if_true,if_false]at e
   obtain ⟨oo,e'⟩:=(c.rep j o1 e1).live;rw [e,hb]at e';exact k1 e'
  ·rw [hob j h]at e1;rw [hob j' h']at e2
   simp [h,h',if_false]at e
   exact c.inj j j' o1 o2 e1 e2 e
theorem set(c:Core S ob P z y Φ s)(h':Heap)(tk:Nat)(d:Drawn){q:Key}{o₀ o:CO}(hq:ob q=some o₀)(k: ∀a oo,a≠Φ q→s.heap.get? a=some oo→h'.get? a=some oo)
  (ho:C3n S P z Φ h' (Φ q) o) (hob: ∀j,j≠q→ob' j=ob j) (hobq:ob' q=some o):Core S ob' P z y Φ {s with heap:=h',toks:=tk,drawn:=d}:=by
 refine⟨c.gens,c.os,c.base,fun a o' e=>k _ _ (fun h=>?_) (c.zin a o' e),fun a o' e=>(c.yin a o' e).keep fun oo e'=>k _ _ (fun h=>?_) e',c.zy,fun j o' e=>?_,fun j o' e=>?_,fun j o' e=>?_,fun j o' e=>?_,fun j j' o1 o2 e1 e2 e=>?_⟩
 ·rw [h,c.zf q _ hq]at e;exact k1 e
 ·rw [h,c.yf q _ hq]at e;exact k1 e
 ·by_cases h:j=q
  ·subst h;exact c.al _ _ hq
  ·rw [hob j h]at e;exact c.al j o' e
 ·by_cases h:j=q
  ·subst h;rw [hobq]at e;cases e;exact ho
  ·rw [hob j h]at e
   exact(c.rep j o' e).mono Ext0.refl fun oo e'=>k _ _ (fun h2=>h (c.inj j q _ _ e hq h2)) e'
 ·by_cases h:j=q
  ·subst h;exact c.zf _ _ hq
  ·rw [hob j h]at e;exact c.zf j o' e
 ·by_cases h:j=q
  ·subst h;exact c.yf _ _ hq
  ·rw [hob j h]at e;exact c.yf j o' e
 ·have back: ∀j o,ob' j=some o→ ∃o3,ob j=some o3:=fun j o e=>by
   by_cases h:j=q
   ·subst h;exact⟨_,hq⟩
   ·rw [hob j h]at e;exact⟨_,e⟩
  refine A0i (back j o1 e1) fun o3 e3=>A0i (back j' o2 e2) fun o4 e4=>?_
  exact c.inj j j' o3 o4 e3 e4 e
theorem newkey(c:Core S ob P z y Φ s){b:Addr}{q:Key}{o:CO}(hq: ¬P q)(hz:z b=none)(hy:y b=none)
  (ho:C3n S (fun j=>P j∨j=q) z (fun j=>if j=q then b else Φ j) s.heap b o) (hob: ∀j o,j≠q→ob' j=some o→ob j=some o∧Φ j≠b) (hobq:ob' q=some o):
  Core S ob' (fun j=>P j∨j=q) z y (fun j=>if j=q then b else Φ j) s∧Ext0 P z Φ (fun j=>P j∨j=q) z (fun j=>if j=q then b else Φ j):=by
 have x:Ext0 P z Φ (fun j=>P j∨j=q) z (fun j=>if j=q then b else Φ j):=⟨fun _ h=> .inl h,fun _ _ e=>e,fun j hj=>by
  have:j≠q:=fun e=>hq (e▸hj)
  simp [this,if_false]⟩
 refine⟨⟨c.gens,c.os,c.base,c.zin,c.yin,c.zy,fun j o' e=>?_,fun j o' e=>?_,fun j o' e=>?_,fun j o' e=>?_,fun j j' o1 o2 e1 e2 e=>?_⟩,x⟩
 ·by_cases h:j=q
  ·exact .inr h
  ·exact .inl (c.al j o' (hob j o' h e).1)
 ·by_cases h:j=q
  ·subst h;rw [hobq]at e;cases e;simp [if_true];exact ho
  ·simp [h,if_false];exact(c.rep j o' (hob j o' h e).1).mono x fun _ e=>e
 ·by_cases h:j=q
  ·subst h;simp [if_true];exact hz
  ·simp [h,if_false];exact c.zf j o' (hob j o' h e).1
 ·by_cases h:j=q
  ·subst h;simp [if_true];exact hy
  ·simp [h,if_false];exact c.yf j o' (hob j o' h e).1
 ·by_cases h:j=q <;> by_cases h':j'=q
  ·simp only [h,h']
  ·simp [h,h',if_true,if_false]at e
   exact absurd e.symm (hob j' o2 h' e2).2
  ·simp [h,h',if_true,if_false]at e
   exact absurd e (hob j o1 h e1).2
  ·simp [h,h',if_false]at e
   exact c.inj j j' o1 o2 (hob j o1 h e1).1 (hob j' o2 h' e2).1 e
theorem freeze(c:Core S ob P z y Φ s){q:Key}{o₀:CO}{oo:Obj}(hq:ob q=some o₀)(ho:s.heap.get? (Φ q)=some oo)(hob: ∀j o,ob' j=some o→ob j=some o∧j≠q):
  Core S ob' P (fun a=>if a=Φ q then some oo else z a) y Φ s∧Ext0 P z Φ P (fun a=>if a=Φ q then some oo else z a) Φ:=by
 have x:Ext0 P z Φ P (fun a=>if a=Φ q then some oo else z a) Φ:=⟨fun _ h=>h,fun a o' e=>by
  by_cases h:a=Φ q
  ·subst h;rw [c.zf q _ hq]at e;exact k1 e
  ·simp [h,if_false];exact e,fun _ _=>rfl⟩
 refine⟨⟨c.gens,c.os,fun a o' e=>x.z _ _ (c.base a o' e),fun a o' e=>?_,c.yin,fun a o' e=>?_,fun j o' e=>c.al j o' (hob j o' e).1,fun j o' e=>(c.rep j o' (hob j o' e).1).mono x fun _ e=>e,
  fun j o' e=>?_,fun j o' e=>c.yf j o' (hob j o' e).1,fun j j' o1 o2 e1 e2=>c.inj j j' o1 o2 (hob j o1 e1).1 (hob j' o2 e2).1⟩,x⟩
 ·by_cases h:a=Φ q
  ·subst h;simp only [if_true]at e;cases e;exact ho
  ·simp [h,if_false]at e;exact c.zin _ _ e
 ·by_cases h:a=Φ q
  ·subst h;rw [c.yf q _ hq]at e;exact k1 e
  ·simp [h,if_false];exact c.zy a o' e
 ·by_cases h:Φ j=Φ q
  ·exact absurd (c.inj j q _ _ (hob j o' e).1 hq h) (hob j o' e).2
  ·simp [h,if_false];exact c.zf j o' (hob j o' e).1
end Core
structure Win where
 sort:Int
 parent:Int
 left:Int
 top:Int
 width:Int
 height:Int
 buf:Int
 start:Int
 point:Int
 hscroll:Int
 use:Int
 kids:List Int
 ded:Bool
 ver:Nat
 ear:AV
 lat:AV
structure Tree where
 wins:List (Int×Win)
 last:Int
 clock:Int
 lw:Int
 lh:Int
 root:Int
 sel:Int
 stg:Nat
noncomputable def Tree.get(t:Tree)(n:Int):Option Win:=t.wins.lookup n
noncomputable def Tree.put(t:Tree)(n:Int)(w:Win):Tree:={t with wins:=t.wins.map fun p=>if p.1=n then(p.1,w)else p}
noncomputable def Tree.add(t:Tree)(n:Int)(w:Win):Tree:={t with wins:=t.wins++ [(n,w)]}
noncomputable def Win.fields(n:Int)(w:Win):List (Str×AV):=
 [("number",.int n),("sort",.int w.sort),("parent",.int w.parent),("children",.ref (.kid n w.ver)),("left",.int w.left),("top",.int w.top),
 ("width",.int w.width),("height",.int w.height),("buffer",.int w.buf),("start",.int w.start),("point",.int w.point),("hscroll",.int w.hscroll),
 ("is_dedicated",.bool w.ded),("use_time",.int w.use),("earlier",w.ear),("later",w.lat)]
noncomputable def Tree.fields(t:Tree):List (Str×AV):=
 ([("windows",.ref .wdic),("last",.int t.last),("clock",.int t.clock),("least_width",.int t.lw),("least_height",.int t.lh),("root",.int t.root),("selected",.int t.sel)]:List (Str×AV)).take t.stg
structure St where
 tr:Option Tree
 dk:Option (List Int×Int)
 nw:Option (Int×Nat×Win)
 rl:Option (Nat×Nat×Int×Int)
 tb:Bool
 fid:Nat
 nam:List Str
 loc:List (Option AV)
 tmp:List (Option CO)
 cfid:Nat
 cnm:List Str
 cel:List (Option AV)
 glb:List Str
@[reducible] noncomputable def St.back (σ σ':St):St:={σ with tr:=σ'.tr,dk:=σ'.dk,nw:=σ'.nw,rl:=σ'.rl,tb:=σ'.tb}
noncomputable def St.find(σ:St)(n:Int):Option (Nat×Win):=match σ.tr.bind (·.get n)with
 |some w=>some (16,w)
 |none=>match σ.nw with
  |some p=>if n=p.1 then some p.2 else none
  |none=>none
noncomputable def D3o(r c:Int):List (Str×AV):= [("rows",.int r),("columns",.int c)]
noncomputable def St.obj(S:SP)(σ:St):Key→Option CO
 | .tree=>σ.tr.map fun _=> .inst S.CT .treeD
 | .treeD=>σ.tr.map fun t=> .ns t.fields
 | .wdic=>σ.tr.bind fun t=>if 1≤t.stg then some (.idic (t.wins.map (·.1)) (t.wins.map fun p=> .ref (.win p.1)))else none
 | .win n=>(σ.find n).map fun _=> .inst S.CW (.winD n)
 | .winD n=>(σ.find n).map fun p=> .ns ((p.2.fields n).take p.1)
 | .kid n v=>(σ.find n).bind fun p=>if 4≤p.1∧p.2.ver=v then some (.list (p.2.kids.map .int))else none
 | .deck=>σ.dk.map fun d=> .list [.lst (d.1.map .int),.int d.2]
 | .loc f=>if f=σ.fid then some (.locs σ.nam σ.loc)else none
 | .tmp f k=>if f=σ.fid then(σ.tmp[k]?).join else none
 | .cel f i=>if f=σ.cfid then(σ.cel[i]?).map .cell else none
 | .rl f=>σ.rl.bind fun p=>if f=p.1 then some (.inst S.CR (.rlD f))else none
 | .rlD f=>σ.rl.bind fun p=>if f=p.1 then some (.ns ((D3o p.2.2.1 p.2.2.2).take p.2.1))else none
 | .tab=>some (.tabo σ.tb)
noncomputable def A9v(K:Frag)(C:Addr)(f:Str):Bool:=plainGet K C f && hasDictIn K C && (findIn K (.ref C) f == some none)
noncomputable def B2l(K:Frag)(C:Addr)(f:Str):Bool:=(findIn K (.ref C) "__setattr__" == some (some (.builtin "object.__setattr__"))) && plainOver K C && (takerIn K C f == some none) && hasDictIn K C
noncomputable def A7u:List Str:= ["number","sort","parent","children","left","top","width","height","buffer","start","point","hscroll","is_dedicated","use_time","earlier","later"]
noncomputable def A9g:List Str:= ["windows","last","clock","least_width","least_height","root","selected"]
structure EOK (env:Env) (nam cnm glb:List Str):Prop where
 kfun:env.scope.kind= .function
 glob:env.globals=mainGlobals
 blt:env.builtins=builtinsNs
 kloc: ∀x∈nam,env.kindOf x=some .local∧(x == ("__debug__":Str))=false
 kcel: ∀x∈cnm,env.kindOf x=some .cell∧(x == ("__debug__":Str))=false
 kglb: ∀x∈glb,env.kindOf x=some .globalImplicit∧(x == ("__debug__":Str))=false
 nd:nam.Nodup
noncomputable def Pf(P:Key→Prop)(f:Nat):Prop:=P (.loc f)∨(∃k,P (.tmp f k))∨(∃k,P (.cel f k))∨P (.rl f)∨P (.rlD f)
structure PInv (σ:St) (P:Key→Prop):Prop where
 tmp: ∀k,P (.tmp σ.fid k)→k<σ.tmp.length
 win: ∀n,P (.win n)∨P (.winD n)→ ∃p,σ.find n=some p
 kid: ∀n v,P (.kid n v)→ ∃p,σ.find n=some p∧4≤p.1∧v≤p.2.ver
 tree:P .tree∨P .treeD→ ∃t,σ.tr=some t
 wdic:P .wdic→ ∃t,σ.tr=some t∧1≤t.stg
 deck:P .deck→σ.dk≠none
structure SOK (S:SP):Prop where
 kin:S.K.In S.base
 lim:S.base.NoLimit
 g:S.base.Ns mainGlobals S.mg
 b:S.base.Ns builtinsNs S.mb
 wg: ∀f∈A7u,A9v S.K S.CW f=true
 ws: ∀f∈A7u,B2l S.K S.CW f=true
 tg: ∀f∈A9g,A9v S.K S.CT f=true
 ts: ∀f∈A9g,B2l S.K S.CT f=true
structure Sim (S:SP) (env:Env) (σ:St) (P:Key→Prop) (z:Gh) (y:Gy) (Φ:Key→Addr) (s:Shared):Prop where
 core:Core S (σ.obj S) P z y Φ s
 ok:SOK S
 eok:EOK env σ.nam σ.cnm σ.glb
 pin:PInv σ P
 fid:σ.fid=env.locals
 loc:Φ (.loc σ.fid)=env.locals
 top: ∀f,Pf P f→ ∃o,s.heap.get? f=some o
 cel: ∀(i:Nat) (x:Str),σ.cnm[i]? =some x→env.cells.lookup x=some (Φ (.cel σ.cfid i))
 ll:σ.loc.length=σ.nam.length
 lc:σ.cel.length=σ.cnm.length
noncomputable def D1d(outer:List Env)(y:Gy):Prop:= ∀e∈outer,e.scope.kind≠ .module∧ ∃L o es ep,e.frame=some L∧y L=some (o,true)∧o.data= .dict es ep
structure AOK (d:Nat) (r:Bool) (env:Env) (y:Gy) (A:Around):Prop where
 h:A.handled=none
 dep:A.depth+d≤900
 uni:A.units+20*d≤9000
 fr:r=true→env.frame=some env.locals∧ ∃outer,A.frames=some (env::outer)∧D1d outer y
noncomputable def Off(ob:Key→Option CO)(z:Gh)(y:Gy)(Φ:Key→Addr)(a:Addr):Prop:=z a=none∧y a=none∧ ∀k o,ob k=some o→Φ k≠a
noncomputable def Exc(S:SP)(P:Key→Prop)(ob:Key→Option CO)(z:Gh)(y:Gy)(Φ:Key→Addr)(h:Heap)(x:Addr):Prop:=
 ∃oe vs a0,h.get? x=some oe∧oe.cls= .ref S.CL∧oe.data= .fields vs∧vs[0]? =some a0∧Off ob z y Φ x∧ ¬Pf P x∧
  (vs[1]? =some .none∨ ∃T oT ts,vs[1]? =some (.ref T)∧T≠x∧h.get? T=some oT∧oT.data= .fields ts∧ts[3]? =some .none∧Off ob z y Φ T∧ ¬Pf P T)
structure Ext (f₀:Nat) (y:Gy) (P:Key→Prop) (z:Gh) (Φ:Key→Addr) (P':Key→Prop) (z':Gh) (Φ':Key→Addr):Prop extends Ext0 P z Φ P' z' Φ' where
 fr: ∀f k,f≠f₀→P' (.tmp f k)→P (.tmp f k)∨ ¬P (.loc f)
 nf: ∀f,Pf P' f→Pf P f∨y f=none
theorem Ext.refl{f₀ y P z Φ}:Ext f₀ y P z Φ P z Φ:=⟨Ext0.refl,fun _ _ _ h=> .inl h,fun _ h=> .inl h⟩
theorem Ext.trans{f₀ yy P z Φ P' z' Φ' P'' z'' Φ''}(x:Ext f₀ yy P z Φ P' z' Φ')(y:Ext f₀ yy P' z' Φ' P'' z'' Φ''):Ext f₀ yy P z Φ P'' z'' Φ'':=
 ⟨x.toExt0.trans y.toExt0,fun f k hf h=>(y.fr f k hf h).elim (x.fr f k hf) fun h'=> .inr fun hp=>h' (x.p _ hp),fun f h=>(y.nf f h).elim (x.nf f) .inr⟩
noncomputable def Res{α β:Type}(S:SP)(env:Env)(R:(Key→Prop)→Gh→(Key→Addr)→β→α→Prop)(P:Key→Prop)(z:Gh)(y:Gy)(Φ:Key→Addr)(Q:β→St→Prop)(a:α)(s':Shared):Prop:=
 ∃P' z' Φ' σ' b,Ext env.locals y P z Φ P' z' Φ'∧R P' z' Φ' b a∧Sim S env σ' P' z' y Φ' s'∧Q b σ'
noncomputable def A9p(S:SP)(env:Env)(P:Key→Prop)(z:Gh)(y:Gy)(Φ:Key→Addr)(X:St→Prop)(e:Value)(s':Shared):Prop:=
 ∃P' z' Φ' σ' x,e= .ref x∧Ext env.locals y P z Φ P' z' Φ'∧Sim S env σ' P' z' y Φ' s'∧Exc S P' (σ'.obj S) z' y Φ' s'.heap x∧X σ'
theorem Res.el{α β:Type}{S:SP}{env:Env}{R:(Key→Prop)→Gh→(Key→Addr)→β→α→Prop}{P:Key→Prop}{z:Gh}{y:Gy}{Φ:Key→Addr}{Q:β→St→Prop}{a:α}{s':Shared}{G:Prop}(h:Res S env R P z y Φ Q a s')(f: ∀P' z' Φ' σ' b,Ext env.locals y P z Φ P' z' Φ'→R P' z' Φ' b a→Sim S env σ' P' z' y Φ' s'→Q b σ'→G):G:=
 h.elim fun _ h=>h.elim fun _ h=>h.elim fun _ h=>h.elim fun _ h=>h.elim fun _ h=>f _ _ _ _ _ h.1 h.2.1 h.2.2.1 h.2.2.2
theorem Res.i{α β:Type}{S:SP}{env:Env}{R:(Key→Prop)→Gh→(Key→Addr)→β→α→Prop}{P:Key→Prop}{z:Gh}{y:Gy}{Φ:Key→Addr}{Q:β→St→Prop}{a:α}{s':Shared}{P' z' Φ' σ' b}(x:Ext env.locals y P z Φ P' z' Φ')(hr:R P' z' Φ' b a)(hs:Sim S env σ' P' z' y Φ' s')(hq:Q b σ'):Res S env R P z y Φ Q a s':=⟨P',z',Φ',σ',b,x,hr,hs,hq⟩
theorem A9p.el{S:SP}{env:Env}{P z y Φ}{X:St→Prop}{e:Value}{s':Shared}{G:Prop}(h:A9p S env P z y Φ X e s')(f: ∀P' z' Φ' σ' x,e= .ref x→Ext env.locals y P z Φ P' z' Φ'→Sim S env σ' P' z' y Φ' s'→Exc S P' (σ'.obj S) z' y Φ' s'.heap x→X σ'→G):G:=
 h.elim fun _ h=>h.elim fun _ h=>h.elim fun _ h=>h.elim fun _ h=>h.elim fun _ h=>f _ _ _ _ _ h.1 h.2.1 h.2.2.1 h.2.2.2.1 h.2.2.2.2
theorem A9p.i{S:SP}{env:Env}{P z y Φ}{X:St→Prop}{e:Value}{s':Shared}{P' z' Φ' σ' x}(h1:e= .ref x)(h2:Ext env.locals y P z Φ P' z' Φ')(h3:Sim S env σ' P' z' y Φ' s')(h4:Exc S P' (σ'.obj S) z' y Φ' s'.heap x)(h5:X σ'):A9p S env P z y Φ X e s':=⟨P',z',Φ',σ',x,h1,h2,h3,h4,h5⟩
theorem Res.ext{α β:Type}{S:SP}{env:Env}{R:(Key→Prop)→Gh→(Key→Addr)→β→α→Prop}{P P1:Key→Prop}{z z1:Gh}{y:Gy}{Φ Φ1:Key→Addr}{Q:β→St→Prop}{a:α}{s':Shared}(x:Ext env.locals y P z Φ P1 z1 Φ1)
  (h:Res S env R P1 z1 y Φ1 Q a s'):Res S env R P z y Φ Q a s':=h.el fun _ _ _ _ _ e r s q=>Res.i (x.trans e) r s q
theorem A9p.ext{S:SP}{env:Env}{P P1 z z1 y Φ Φ1}{X:St→Prop}{e:Value}{s':Shared}(x:Ext env.locals y P z Φ P1 z1 Φ1)(h:A9p S env P1 z1 y Φ1 X e s'):A9p S env P z y Φ X e s':=
 h.el fun _ _ _ _ _ e q r s t=>A9p.i e (x.trans q) r s t
noncomputable def W{α β:Type}(S:SP)(d:Nat)(r:Bool)(env:Env)(R:(Key→Prop)→Gh→(Key→Addr)→β→α→Prop)(t:Sem α)(σ:St)(Q:β→St→Prop)(X:St→Prop):Prop:=
 ∀A P z y Φ s,AOK d r env y A→Sim S env σ P z y Φ s→wpAny (model S.prog S.w) A t (Res S env R P z y Φ Q) (A9p S env P z y Φ X) s
noncomputable def W1{α β γ δ:Type}(S:SP)(d:Nat)(r:Bool)(env:Env)(V:(Key→Prop)→Gh→(Key→Addr)→γ→δ→Prop)(R:(Key→Prop)→Gh→(Key→Addr)→β→α→Prop)(t:δ→Sem α)(g:γ)(σ:St)(Q:β→St→Prop)(X:St→Prop):Prop:=
 ∀A P z y Φ s v,AOK d r env y A→Sim S env σ P z y Φ s→V P z Φ g v→wpAny (model S.prog S.w) A (t v) (Res S env R P z y Φ Q) (A9p S env P z y Φ X) s
theorem W.sb{α β:Type}{S:SP}{d:Nat}{r:Bool}{env:Env}{R:(Key→Prop)→Gh→(Key→Addr)→β→α→Prop}{t:Sem α}{X:St→Prop}{σ σ':St}{Q:β→St→Prop}(e:σ=σ')(h:W S d r env R t σ' Q X):W S d r env R t σ Q X:=e▸h
theorem W1.sb{α β γ δ:Type}{S:SP}{d:Nat}{r:Bool}{env:Env}{V:(Key→Prop)→Gh→(Key→Addr)→γ→δ→Prop}{R:(Key→Prop)→Gh→(Key→Addr)→β→α→Prop}{t:δ→Sem α}{g:γ}{X:St→Prop}{σ σ':St}{Q:β→St→Prop}(e:σ=σ')(h:W1 S d r env V R t g σ' Q X):W1 S d r env V R t g σ Q X:=e▸h
theorem W1.sa{α β γ δ:Type}{S:SP}{d:Nat}{r:Bool}{env:Env}{V:(Key→Prop)→Gh→(Key→Addr)→γ→δ→Prop}{R:(Key→Prop)→Gh→(Key→Addr)→β→α→Prop}{t:δ→Sem α}{g g':γ}{X:St→Prop}{σ:St}{Q:β→St→Prop}(e:g=g')(h:W1 S d r env V R t g' σ Q X):W1 S d r env V R t g σ Q X:=e▸h
theorem Q.sb{α:Type}{Q:α→St→Prop}{a:α}{σ σ':St}(e:σ=σ')(h:Q a σ'):Q a σ:=e▸h
theorem Q.sa{α:Type}{Q:α→St→Prop}{a a':α}{σ:St}(e:a=a')(h:Q a' σ):Q a σ:=e▸h
noncomputable abbrev RV (S:SP):(Key→Prop)→Gh→(Key→Addr)→AV→Value→Prop:=A1i S
noncomputable abbrev RL (S:SP):(Key→Prop)→Gh→(Key→Addr)→List AV→List Value→Prop:=A0c S
noncomputable abbrev RB:(Key→Prop)→Gh→(Key→Addr)→Bool→Bool→Prop:=fun _ _ _ b a=>a=b
noncomputable abbrev RU:(Key→Prop)→Gh→(Key→Addr)→Unit→Unit→Prop:=fun _ _ _ _ _=>True
noncomputable def R2(S:SP):(Key→Prop)→Gh→(Key→Addr)→AV×AV→Value×Value→Prop:=fun P z Φ a v=>A1i S P z Φ a.1 v.1∧A1i S P z Φ a.2 v.2
noncomputable def R3(S:SP):(Key→Prop)→Gh→(Key→Addr)→AV×AV×AV→Value×Value×Value→Prop:=fun P z Φ a v=>A1i S P z Φ a.1 v.1∧A1i S P z Φ a.2.1 v.2.1∧A1i S P z Φ a.2.2 v.2.2
inductive AF where
 |next|ret (a:AV)
noncomputable def RF(S:SP):(Key→Prop)→Gh→(Key→Addr)→AF→Flow→Prop
 |_,_,_,.next,f=>f= .next
 |P,z,Φ,.ret a,f=> ∃v,f= .ret v∧A1i S P z Φ a v
section
variable {S:SP} {d:Nat} {r:Bool} {env:Env} {α β:Type} {R:(Key→Prop)→Gh→(Key→Addr)→β→α→Prop} {t:Sem α} {σ:St} {Q:β→St→Prop} {X:St→Prop}
variable {A:Around} {P:Key→Prop} {z:Gh} {y:Gy} {Φ:Key→Addr} {s:Shared}
theorem W.run{K:α→Shared→Prop}{E:Value→Shared→Prop}(h:W S d r env R t σ Q X)(hA:AOK d r env y A)(hs:Sim S env σ P z y Φ s)
  (k: ∀a s' P' z' Φ' σ' b,Ext env.locals y P z Φ P' z' Φ'→R P' z' Φ' b a→Sim S env σ' P' z' y Φ' s'→Q b σ'→K a s') (e: ∀x s',A9p S env P z y Φ X x s'→E x s'):
  wpAny (model S.prog S.w) A t K E s:=
 wpAny_mono (h A P z y Φ s hA hs) (fun a s' h=>h.el (k a s')) e
theorem W1.run{γ δ:Type}{V:(Key→Prop)→Gh→(Key→Addr)→γ→δ→Prop}{t:δ→Sem α}{g:γ}{v:δ}{K:α→Shared→Prop}{E:Value→Shared→Prop}(h:W1 S d r env V R t g σ Q X)(hA:AOK d r env y A)(hs:Sim S env σ P z y Φ s)(hv:V P z Φ g v)
  (k: ∀a s' P' z' Φ' σ' b,Ext env.locals y P z Φ P' z' Φ'→R P' z' Φ' b a→Sim S env σ' P' z' y Φ' s'→Q b σ'→K a s') (e: ∀x s',A9p S env P z y Φ X x s'→E x s'):
  wpAny (model S.prog S.w) A (t v) K E s:=
 wpAny_mono (h A P z y Φ s v hA hs hv) (fun a s' h=>h.el (k a s')) e
theorem Res.intro{P' z' Φ' σ' b}{a:α}{s':Shared}(x:Ext env.locals y P z Φ P' z' Φ')(hr:R P' z' Φ' b a)(hs:Sim S env σ' P' z' y Φ' s')(hq:Q b σ'):Res S env R P z y Φ Q a s':=Res.i x hr hs hq
theorem W.mono{Q':β→St→Prop}{X':St→Prop}(h:W S d r env R t σ Q X)(hQ: ∀b σ',Q b σ'→Q' b σ')(hX: ∀σ',X σ'→X' σ'):W S d r env R t σ Q' X':=fun A P z y Φ s hA hs=>
 h.run hA hs (fun a s' P' z' Φ' σ' b x hr hs' hq=>Res.i x hr hs' (hQ _ _ hq)) fun e s' h=>h.el fun _ _ _ _ _ e1 x hs' he hx=>A9p.i e1 x hs' he (hX _ hx)
theorem Sim.tok(h:Sim S env σ P z y Φ s)(tk:Nat):Sim S env σ P z y Φ {s with toks:=tk}:=⟨h.core.tok tk,h.ok,h.eok,h.pin,h.fid,h.loc,h.top,h.cel,h.ll,h.lc⟩
theorem Sim.grow(h:Sim S env σ P z y Φ s)(h':Heap)(tk:Nat)(dr:Drawn)(k: ∀a o,s.heap.get? a=some o→h'.get? a=some o):Sim S env σ P z y Φ {s with heap:=h',toks:=tk,drawn:=dr}:=
 ⟨h.core.grow h' tk dr k,h.ok,h.eok,h.pin,h.fid,h.loc,fun f hf=>let ⟨o,e⟩:=h.top f hf;⟨o,k _ _ e⟩,h.cel,h.ll,h.lc⟩
theorem Sim.keep(h:Sim S env σ P z y Φ s): ∀a o,S.base.get? a=some o→s.heap.get? a=some o:=fun a o e=>h.core.zin _ _ (h.core.base _ _ e)
theorem Sim.kin(h:Sim S env σ P z y Φ s):S.K.In s.heap:=h.ok.kin.keeps h.keep
theorem AOK.in1(h:AOK (d+1) r env y A):AOK d r env y A.in1:=⟨h.h,by have:=h.dep;show A.depth+d≤900;exact Nat.le_of_lt this,by have:=h.uni;show A.units+1+20*d≤9000;exact Z0 this,h.fr⟩
theorem AOK.le{d':Nat}(h:AOK d r env y A)(hd:d'≤d):AOK d' r env y A:=⟨h.h,by have:=h.dep;exact Nat.le_trans (Nat.add_le_add_left hd _) this,by have:=h.uni;lia,h.fr⟩
theorem AOK.line(h:AOK d r env y A):A.units<cLine:=by have:=h.uni;show A.units<9900;lia
end
noncomputable def Has(ns:List Str)(vs:List (Option AV))(x:Str)(a:AV):Prop:= ∃i:Nat,ns[i]? =some x∧vs[i]? =some (some a)
theorem ix{ns vs x a}(i:Nat)(h1:ns[i]? =some x)(h2:vs[i]? =some (some a)):Has ns vs x a:=⟨i,h1,h2⟩
theorem Has.head{ns vs x a}:Has (x::ns) (some a::vs) x a:=⟨0,rfl,rfl⟩
theorem Has.tail{ns vs x y a b}(h:Has ns vs x a):Has (y::ns) (b::vs) x a:=let ⟨i,h1,h2⟩:=h;⟨i+1,h1,h2⟩
noncomputable def Put(ns:List Str)(vs:List (Option AV))(x:Str)(a:AV)(vs':List (Option AV)):Prop:= ∃i:Nat,ns[i]? =some x∧i<vs.length∧vs'=vs.set i (some a)
theorem Put.head{ns vs x a b}:Put (x::ns) (b::vs) x a (some a::vs):=⟨0,rfl,Nat.zero_lt_succ _,rfl⟩
theorem Put.tail{ns vs x y a b vs'}(h:Put ns vs x a vs'):Put (y::ns) (b::vs) x a (b::vs'):=let ⟨i,h1,h2,h3⟩:=h;⟨i+1,h1,Nat.succ_lt_succ h2,by refine(congrArg _ (h3)).trans ?_;rfl⟩
section
variable {S:SP} {P:Key→Prop} {z:Gh} {Φ:Key→Addr}
theorem A0c.len{l:List AV}{vs:List Value}(h:A0c S P z Φ l vs):vs.length=l.length:=by
 induction l generalizing vs with
 |nil=>obtain rfl:=A4z h;rfl
 |cons a l ih=>refine A1x h.uncons fun v r e _ hh=>?_;subst e;exact congrArg (·+1) (ih hh)
theorem A0c.at{l:List AV}{vs:List Value}(h:A0c S P z Φ l vs)(i:Nat){a:AV}(e:l[i]? =some a): ∃v,vs[i]? =some v∧A1i S P z Φ a v:=by
 induction l generalizing vs i with
 |nil=>exact k1 e
 |cons b l ih=>
  refine A1x h.uncons fun v r e9 hv hh=>?_;subst e9
  cases i with
  |zero=>simp at e;subst e;exact⟨v,rfl,hv⟩
  |succ i=>simpa using ih hh i (by simpa using e)
theorem A0c.app{l l':List AV}{vs vs':List Value}(h:A0c S P z Φ l vs)(h':A0c S P z Φ l' vs'):A0c S P z Φ (l++l') (vs++vs'):=by
 induction l generalizing vs with
 |nil=>obtain rfl:=A4z h;exact h'
 |cons a l ih=>refine A1x h.uncons fun v r e hv hh=>?_;subst e;exact .cons hv (ih hh)
theorem A0c.split{l l':List AV}{vs:List Value}(h:A0c S P z Φ (l++l') vs): ∃v1 v2,vs=v1++v2∧A0c S P z Φ l v1∧A0c S P z Φ l' v2:=by
 induction l generalizing vs with
 |nil=>exact⟨[],vs,rfl,.nil,h⟩
 |cons a l ih=>refine A1x (A0c.uncons h) fun v r e hv hh=>?_;subst e;refine A1x (ih hh) fun v1 v2 e h1 h2=>?_;subst e;exact⟨v::v1,v2,rfl,.cons hv h1,h2⟩
end
section
variable {S:SP} {d:Nat} {r:Bool} {env:Env} {σ:St} {X:St→Prop}
theorem A0w{i:Int}{k pos}{Q:AV→St→Prop}(h:Q (.int i) σ):W S d r env (RV S) (eval (.Constant (.int i) k pos) env) σ Q X:=fun A P z y Φ s hA hs=>
 wpAny_Constant_int (Res.intro (b:= .int i) Ext.refl B5f (hs.tok _) h)
theorem A5h{x:Str}{k pos}{Q:AV→St→Prop}(h:Q (.str x) σ):W S d r env (RV S) (eval (.Constant (.str x) k pos) env) σ Q X:=fun A P z y Φ s hA hs=>
 Constant_str (Res.intro (b:= .str x) Ext.refl D5u (hs.tok _) h)
theorem A5w{k pos}{Q:AV→St→Prop}(h:Q .none σ):W S d r env (RV S) (eval (.Constant .none k pos) env) σ Q X:=fun A P z y Φ s hA hs=>
 Constant_none (Res.intro (b:= .none) Ext.refl B6u hs h)
theorem C1q{b:Bool}{k pos}{Q:AV→St→Prop}(h:Q (.bool b) σ):W S d r env (RV S) (eval (.Constant (.bool b) k pos) env) σ Q X:=fun A P z y Φ s hA hs=>
 Constant_bool (Res.intro (b:= .bool b) Ext.refl A7i hs h)
theorem A1l{σ:St}:σ.obj S (.loc σ.fid)=some (.locs σ.nam σ.loc):=by simp [St.obj]
theorem Sim.locals{P z y Φ s}(hs:Sim S env σ P z y Φ s): ∃mm,s.heap.Ns env.locals mm∧ ∀x a,Has σ.nam σ.loc x a→ ∃v,mm x=some v∧A1i S P z Φ a v:=by
 refine A0e (hs.core.rep _ _ A1l) fun mm h1 h3=>?_
 exact A1f mm (by rw [←hs.loc];exact h1) (fun x a ⟨i,e1,e2⟩=>h3 i x a e1 e2)
theorem Has.mem{ns vs x a}(h:Has ns vs x a):x∈ns:=let ⟨i,h1,_⟩:=h;List.mem_of_getElem? h1
theorem A9q{x:Str}{pos a}{Q:AV→St→Prop}(hx:Has σ.nam σ.loc x a)(h:Q a σ):W S d r env (RV S) (eval (.Name x pos) env) σ Q X:=fun A P z y Φ s hA hs=>by
 refine A0e hs.locals fun mm hn hm=>A0e (hm x a hx) fun v hv hr=>A0f (hs.eok.kloc x hx.mem) fun k1 k2=>?_
 exact wpAny_Name (wpAny_loadName_local hs.eok.kfun k1 hn hv (Res.intro Ext.refl hr hs h)) k2
theorem C4d{x:Str}{pos a}{Q:AV→St→Prop}(hx:Has σ.cnm σ.cel x a)(h:Q a σ):W S d r env (RV S) (eval (.Name x pos) env) σ Q X:=fun A P z y Φ s hA hs=>by
 refine A0e hx fun i e1 e2=>?_
 try clear hx
 refine A0f (hs.eok.kcel x (List.mem_of_getElem? e1)) fun k1 k2=>A0e (hs.core.rep (.cel σ.cfid i) (.cell (some a)) (by simp [St.obj,e2])) fun u hu hr=>A0e hr fun v y9a hv=>?_
 try clear hr
 obtain rfl:=y9a
 exact wpAny_Name (wpAny_loadName_cell hs.eok.kfun k1 (hs.cel i x e1) hu (Res.intro Ext.refl hv hs h)) k2
theorem C2j{x:Str}{pos}{i:Int}{tk:Tok}{Q:AV→St→Prop}(hx:x∈σ.glb)(hv:S.mg x=some (.int i tk))(h:Q (.int i) σ):W S d r env (RV S) (eval (.Name x pos) env) σ Q X:=fun A P z y Φ s hA hs=>by
 refine A0f (hs.eok.kglb x hx) fun k1 k2=>?_
 exact Name_function_global hs.eok.kfun k1 (loadGlobal_global (by rw [hs.eok.glob];exact hs.ok.g.keeps hs.keep) hv (Res.intro (b:= .int i) Ext.refl B5f hs h)) k2
theorem C1g{x:Str}{pos}{v:Value}{A P z y Φ s}{E:Value→Shared→Prop}{Q:Value→Shared→Prop}(hs:Sim S env σ P z y Φ s)(hx:x∈σ.glb)(hv:S.mg x=some v)(h:Q v s):wpAny (model S.prog S.w) A (eval (.Name x pos) env) Q E s:=by
 refine A0f (hs.eok.kglb x hx) fun k1 k2=>?_
 exact Name_function_global hs.eok.kfun k1 (loadGlobal_global (by rw [hs.eok.glob];exact hs.ok.g.keeps hs.keep) hv h) k2
theorem B8j{x:Str}{pos}{v:Value}{A P z y Φ s}{E:Value→Shared→Prop}{Q:Value→Shared→Prop}(hs:Sim S env σ P z y Φ s)(hx:x∈σ.glb)(hn:S.mg x=none)(hv:S.mb x=some v)(h:Q v s):wpAny (model S.prog S.w) A (eval (.Name x pos) env) Q E s:=by
 refine A0f (hs.eok.kglb x hx) fun k1 k2=>?_
 exact Name_function_global hs.eok.kfun k1 (loadGlobal_builtin (by rw [hs.eok.glob];exact hs.ok.g.keeps hs.keep) hn (by rw [hs.eok.blt];exact hs.ok.b.keeps hs.keep) hv h) k2
theorem A0t{l op e pos}{Q:AV→St→Prop}(h:W S d r env (RV S) (eval l env) σ (fun a σ₁=>W S d r env (RV S) (eval e env) σ₁ (fun b σ₂=>
   W1 S d r env (R2 S) (RV S) (fun v:Value×Value=>binaryOp op v.1 v.2) (a,b) σ₂ Q X) X) X):W S d r env (RV S) (eval (.BinOp l op e pos) env) σ Q X:=fun A P z y Φ s hA hs=>
 wpAny_BinOp (h.run hA hs (fun v s₁ P₁ z₁ Φ₁ σ₁ a x₁ r₁ hs₁ h₁=>h₁.run hA hs₁ (fun u s₂ P₂ z₂ Φ₂ σ₂ b x₂ r₂ hs₂ h₂=>
  W1.run (v:=(v,u)) h₂ hA hs₂ ⟨A1i.mono x₂.toExt0 _ _ r₁,r₂⟩ (fun c s₃ P₃ z₃ Φ₃ σ₃ g x₃ r₃ hs₃ q=>Res.intro ((x₁.trans x₂).trans x₃) r₃ hs₃ q) fun e s' hx=>hx.ext (x₁.trans x₂)) fun e s' hx=>hx.ext x₁) fun e s' hx=>hx)
theorem B8t{l op e pos}{Q:AV→St→Prop}(hm:behindInMarks op e=false)(h:W S d r env (RV S) (eval l env) σ (fun a σ₁=>W S d r env (RV S) (eval e env) σ₁ (fun b σ₂=>
   W1 S d r env (R2 S) (RV S) (fun v:Value×Value=>compareOp op v.1 v.2) (a,b) σ₂ Q X) X) X):W S d r env (RV S) (eval (.Compare l [op] [e] pos) env) σ Q X:=fun A P z y Φ s hA hs=>
 wpAny_Compare1 (h.run hA hs (fun v s₁ P₁ z₁ Φ₁ σ₁ a x₁ r₁ hs₁ h₁=>h₁.run hA hs₁ (fun u s₂ P₂ z₂ Φ₂ σ₂ b x₂ r₂ hs₂ h₂=>
  W1.run (v:=(v,u)) h₂ hA hs₂ ⟨A1i.mono x₂.toExt0 _ _ r₁,r₂⟩ (fun c s₃ P₃ z₃ Φ₃ σ₃ g x₃ r₃ hs₃ q=>Res.intro ((x₁.trans x₂).trans x₃) r₃ hs₃ q) fun e s' hx=>hx.ext (x₁.trans x₂)) fun e s' hx=>hx.ext x₁) fun e s' hx=>hx) hm
theorem D1q{op e pos}{Q:AV→St→Prop}(h:W S d r env (RV S) (eval e env) σ (fun a σ₁=>W1 S d r env (RV S) (RV S) (fun v=>unaryOp op v) a σ₁ Q X) X):
  W S d r env (RV S) (eval (.UnaryOp op e pos) env) σ Q X:=fun A P z y Φ s hA hs=>
 UnaryOp_ (h.run hA hs (fun v s₁ P₁ z₁ Φ₁ σ₁ a x₁ r₁ hs₁ h₁=>W1.run h₁ hA hs₁ r₁ (fun c s₃ P₃ z₃ Φ₃ σ₃ g x₃ r₃ hs₃ q=>Res.intro (x₁.trans x₃) r₃ hs₃ q) fun e s' hx=>hx.ext x₁) fun e s' hx=>hx)
section
variable {i j:Int} {Q:AV→St→Prop}
theorem B0a(h:Q (.int (i+j)) σ):W1 S d r env (R2 S) (RV S) (fun v:Value×Value=>binaryOp .Add v.1 v.2) (.int i,.int j) σ Q X:=fun A P z y Φ s v hA hs hv=>by
 obtain ⟨v1,v2⟩:=v
 obtain ⟨t1,e1⟩:=A0r hv.1;obtain ⟨t2,e2⟩:=A0r hv.2
 dsimp only at e1 e2;subst e1 e2
 exact PySem.P.add_int (Res.intro (b:= .int _) Ext.refl B5f (hs.tok _) h)
theorem B9m(h:Q (.int (i-j)) σ):W1 S d r env (R2 S) (RV S) (fun v:Value×Value=>binaryOp .Sub v.1 v.2) (.int i,.int j) σ Q X:=fun A P z y Φ s v hA hs hv=>by
 obtain ⟨v1,v2⟩:=v
 obtain ⟨t1,e1⟩:=A0r hv.1;obtain ⟨t2,e2⟩:=A0r hv.2
 dsimp only at e1 e2;subst e1 e2
 exact PySem.P.sub_int (Res.intro (b:= .int _) Ext.refl B5f (hs.tok _) h)
theorem B7f(hm:IntMulOk i j)(h:Q (.int (i*j)) σ):W1 S d r env (R2 S) (RV S) (fun v:Value×Value=>binaryOp .Mult v.1 v.2) (.int i,.int j) σ Q X:=fun A P z y Φ s v hA hs hv=>by
 obtain ⟨v1,v2⟩:=v
 obtain ⟨t1,e1⟩:=A0r hv.1;obtain ⟨t2,e2⟩:=A0r hv.2
 dsimp only at e1 e2;subst e1 e2
 exact PySem.P.mul_int (Res.intro (b:= .int _) Ext.refl B5f (hs.tok _) h) hm
theorem D2c(hj:j≠0)(hm:Builtin.divisionGoesByPylong i j=false)(h:Q (.int (i.fdiv j)) σ):W1 S d r env (R2 S) (RV S) (fun v:Value×Value=>binaryOp .FloorDiv v.1 v.2) (.int i,.int j) σ Q X:=fun A P z y Φ s v hA hs hv=>by
 obtain ⟨v1,v2⟩:=v
 obtain ⟨t1,e1⟩:=A0r hv.1;obtain ⟨t2,e2⟩:=A0r hv.2
 dsimp only at e1 e2;subst e1 e2
 exact PyProof.Rows.floordiv_int hj (Res.intro (b:= .int _) Ext.refl B5f (hs.tok _) h) (.inl hm)
theorem D2b(hj:j≠0)(h:Q (.int (i.fmod j)) σ):W1 S d r env (R2 S) (RV S) (fun v:Value×Value=>binaryOp .Mod v.1 v.2) (.int i,.int j) σ Q X:=fun A P z y Φ s v hA hs hv=>by
 obtain ⟨v1,v2⟩:=v
 obtain ⟨t1,e1⟩:=A0r hv.1;obtain ⟨t2,e2⟩:=A0r hv.2
 dsimp only at e1 e2;subst e1 e2
 exact PyProof.Rows.mod_int' hj (Res.intro (b:= .int _) Ext.refl B5f (hs.tok _) h)
theorem D3q(h:Q (.bool (i == j)) σ):W1 S d r env (R2 S) (RV S) (fun v:Value×Value=>compareOp .Eq v.1 v.2) (.int i,.int j) σ Q X:=fun A P z y Φ s v hA hs hv=>by
 obtain ⟨v1,v2⟩:=v
 obtain ⟨t1,e1⟩:=A0r hv.1;obtain ⟨t2,e2⟩:=A0r hv.2
 dsimp only at e1 e2;subst e1 e2
 exact PySem.P.eq_int (Res.intro (b:= .bool _) Ext.refl A7i hs h)
theorem D5w(h:Q (.bool (i != j)) σ):W1 S d r env (R2 S) (RV S) (fun v:Value×Value=>compareOp .NotEq v.1 v.2) (.int i,.int j) σ Q X:=fun A P z y Φ s v hA hs hv=>by
 obtain ⟨v1,v2⟩:=v
 obtain ⟨t1,e1⟩:=A0r hv.1;obtain ⟨t2,e2⟩:=A0r hv.2
 dsimp only at e1 e2;subst e1 e2
 exact PySem.P.ne_int (Res.intro (b:= .bool _) Ext.refl A7i hs h)
theorem D1g(h:Q (.bool (decide (i<j))) σ):W1 S d r env (R2 S) (RV S) (fun v:Value×Value=>compareOp .Lt v.1 v.2) (.int i,.int j) σ Q X:=fun A P z y Φ s v hA hs hv=>by
 obtain ⟨v1,v2⟩:=v
 obtain ⟨t1,e1⟩:=A0r hv.1;obtain ⟨t2,e2⟩:=A0r hv.2
 dsimp only at e1 e2;subst e1 e2
 exact PySem.P.lt_int (Res.intro (b:= .bool _) Ext.refl A7i hs h)
theorem D5x(h:Q (.bool (decide (i≤j))) σ):W1 S d r env (R2 S) (RV S) (fun v:Value×Value=>compareOp .LtE v.1 v.2) (.int i,.int j) σ Q X:=fun A P z y Φ s v hA hs hv=>by
 obtain ⟨v1,v2⟩:=v
 obtain ⟨t1,e1⟩:=A0r hv.1;obtain ⟨t2,e2⟩:=A0r hv.2
 dsimp only at e1 e2;subst e1 e2
 exact PySem.P.le_int (Res.intro (b:= .bool _) Ext.refl A7i hs h)
theorem D4e(h:Q (.bool (decide (i>j))) σ):W1 S d r env (R2 S) (RV S) (fun v:Value×Value=>compareOp .Gt v.1 v.2) (.int i,.int j) σ Q X:=fun A P z y Φ s v hA hs hv=>by
 obtain ⟨v1,v2⟩:=v
 obtain ⟨t1,e1⟩:=A0r hv.1;obtain ⟨t2,e2⟩:=A0r hv.2
 dsimp only at e1 e2;subst e1 e2
 exact PySem.P.gt_int (Res.intro (b:= .bool _) Ext.refl A7i hs h)
theorem D3p(h:Q (.bool (decide (i≥j))) σ):W1 S d r env (R2 S) (RV S) (fun v:Value×Value=>compareOp .GtE v.1 v.2) (.int i,.int j) σ Q X:=fun A P z y Φ s v hA hs hv=>by
 obtain ⟨v1,v2⟩:=v
 obtain ⟨t1,e1⟩:=A0r hv.1;obtain ⟨t2,e2⟩:=A0r hv.2
 dsimp only at e1 e2;subst e1 e2
 exact PySem.P.ge_int (Res.intro (b:= .bool _) Ext.refl A7i hs h)
theorem D4d(h:Q (.int (-i)) σ):W1 S d r env (RV S) (RV S) (fun v=>unaryOp .USub v) (.int i) σ Q X:=fun A P z y Φ s v hA hs hv=>by
 refine A0i (A0r hv) fun t1 y9a=>?_
 obtain rfl:=y9a
 exact PySem.P.neg_int (Res.intro (b:= .int _) Ext.refl B5f (hs.tok _) h)
end
end
noncomputable def IsB(c:AV)(K:Bool→Prop):Prop:=match c with| .bool b=>K b|_=>False
theorem isb{b:Bool}{K:Bool→Prop}(h:K b):IsB (.bool b) K:=h
noncomputable def B8q(f:AF)(σ:St)(K:St→Prop)(Q:AF→St→Prop):Prop:=match f with| .next=>K σ| .ret a=>Q (.ret a) σ
theorem A0a{σ:St}{K:St→Prop}{Q:AF→St→Prop}(h:K σ):B8q .next σ K Q:=h
theorem A0m{a:AV}{σ:St}{K:St→Prop}{Q:AF→St→Prop}(h:Q (.ret a) σ):B8q (.ret a) σ K Q:=h
noncomputable def A9c(σ:St)(x:Str)(a:AV)(K:St→Prop):Prop:= ∃l',Put σ.nam σ.loc x a l'∧K {σ with loc:=l'}
theorem A9c.sa{σ:St}{x:Str}{a a':AV}{K:St→Prop}(e:a=a')(h:A9c σ x a' K):A9c σ x a K:=e▸h
theorem A9c.sb{σ σ':St}{x:Str}{a:AV}{K:St→Prop}(e:σ=σ')(h:A9c σ' x a K):A9c σ x a K:=e▸h
theorem D5h{σ:St}{x:Str}{a:AV}{l'}{K:St→Prop}(h:Put σ.nam σ.loc x a l')(k:K {σ with loc:=l'}):A9c σ x a K:=⟨l',h,k⟩
noncomputable def D5r(σ:St)(x:Str)(a:AV)(K:St→Prop):Prop:= ∃l',Put σ.cnm σ.cel x a l'∧K {σ with cel:=l'}
theorem C9a{a:Addr}{h h':Heap}(hb:Heap.SameBut a h h'){b:Addr}(x: ∃o,h.get? b=some o)(y: ∃o,h'.get? a=some o): ∃o,h'.get? b=some o:=by
 by_cases q:b=a
 ·rw [q];exact y
 ·obtain ⟨o,e⟩:=x;exact⟨o,(hb.2 b q).trans e⟩
theorem D2e{h:Heap}{a:Addr}{m:Str→Option Value}(x:h.Ns a m): ∃o,h.get? a=some o:=let ⟨o,_,_,e,_⟩:=x;⟨o,e⟩
section
variable {S:SP} {d:Nat} {r:Bool} {env:Env} {σ:St} {X:St→Prop}
theorem C2v(σ:St)(l')(j:Key)(h:j≠ .loc σ.fid):({σ with loc:=l'}:St).obj S j=σ.obj S j:=by
 cases j with
 |loc f=>have:f≠σ.fid:=fun e=>h (by exact congrArg _ (e));simp [St.obj,this]
 |_=>rfl
theorem C2w(σ:St)(i:Nat)(c:Option AV)(j:Key)(h:j≠ .cel σ.cfid i):({σ with cel:=σ.cel.set i c}:St).obj S j=σ.obj S j:=by
 cases j with
 |cel f i'=>
  simp only [St.obj]
  by_cases hf:f=σ.cfid
  ·simp [hf,if_true]
   have:i≠i':=fun e=>h (by rw [hf,e])
   exact congrArg _ (List.getElem?_set_ne this)
  ·simp [hf,if_false]
 |_=>rfl
theorem Sim.setloc{P z y Φ}{s:Shared}(hs:Sim S env σ P z y Φ s){x:Str}{a:AV}{v:Value}{l'}(hp:Put σ.nam σ.loc x a l')(hv:A1i S P z Φ a v){mm:Str→Option Value}{h':Heap}{tk:Tok}
  (hm: ∀x a,Has σ.nam σ.loc x a→ ∃v,mm x=some v∧A1i S P z Φ a v)
  (hn:h'.Ns env.locals (fun y=>if y=x then some v else mm y)) (hb:Heap.SameBut env.locals s.heap h'):
  Sim S env {σ with loc:=l'} P z y Φ {s with heap:=h',toks:=tk}:=by
 refine A2u hp fun i e1 e2 y9a=>?_
 try clear hp
 obtain rfl:=y9a
 refine⟨hs.core.set (ob':=({σ with loc:=σ.loc.set i (some a)}:St).obj S) h' tk s.drawn A1l (fun b oo hb' e=>(hb.2 b (by simp only [←hs.loc];exact hb')).trans e) (o:= .locs σ.nam (σ.loc.set i (some a))) ⟨_,hs.loc.symm▸hn,fun j w b hj hb'=>?_⟩ (fun j hj=>C2v σ _ j hj) (by simp [St.obj]),hs.ok,hs.eok,⟨hs.pin.tmp,hs.pin.win,hs.pin.kid,hs.pin.tree,hs.pin.wdic,hs.pin.deck⟩,hs.fid,hs.loc,fun f hf=>C9a hb (hs.top f hf) (D2e hn),hs.cel,by simpa using hs.ll,hs.lc⟩
 by_cases hij:i=j
 ·subst hij
  rw [List.getElem?_set_self e2]at hb'
  rw [e1]at hj;cases hj
  cases hb'
  exact A1f v (by simp) hv
 ·rw [List.getElem?_set_ne hij]at hb'
  have:w≠x:=fun e=>hij (by
   subst e
   have n1:i<σ.nam.length:=(List.getElem?_eq_some_iff.mp e1).1
   exact(List.getElem?_inj n1 hs.eok.nd).mp (e1.trans hj.symm))
  refine A0e (hm w b ⟨j,hj,hb'⟩) fun u q1 q2=>?_
  exact A1f u (by simp [this,q1]) q2
theorem Put.mem{ns vs x a l'}(h:Put ns vs x a l'):x∈ns:=let ⟨i,h1,_⟩:=h;List.mem_of_getElem? h1
theorem EOK.noclass{nam cnm glb}(h:EOK env nam cnm glb):(env.scope.kind == .class || (env.scope.kind == .module && env.locals != env.globals))=false:=by rw [h.kfun];rfl
theorem A3b{A:Around}{P z y Φ}{s:Shared}{E:Value→Shared→Prop}{K:Unit→Shared→Prop}(hs:Sim S env σ P z y Φ s){x:Str}{a:AV}{v:Value}{l'}(hp:Put σ.nam σ.loc x a l')(hv:A1i S P z Φ a v)
  (k: ∀s',Sim S env {σ with loc:=l'} P z y Φ s'→K () s'):wpAny (model S.prog S.w) A (storeName env x v) K E s:=by
 refine A0e hs.locals fun mm hn hm=>?_
 exact wpAny_storeName_local (hs.eok.kloc x hp.mem).1 hn (fun h' hn' hb=>k _ (hs.setloc hp hv hm hn' hb)) hs.eok.noclass
theorem B9b{A:Around}{P z y Φ}{s:Shared}{E:Value→Shared→Prop}{K:Unit→Shared→Prop}(hs:Sim S env σ P z y Φ s){x:Str}{a:AV}{v:Value}{l'}(hp:Put σ.cnm σ.cel x a l')(hv:A1i S P z Φ a v)
  (k: ∀s',Sim S env {σ with cel:=l'} P z y Φ s'→K () s'):wpAny (model S.prog S.w) A (storeName env x v) K E s:=by
 refine A2u hp fun i e1 e2 y9a=>?_
 try clear hp
 obtain rfl:=y9a
 refine A0f (hs.eok.kcel x (List.mem_of_getElem? e1)) fun k1 k2=>?_
 have hi:σ.cel[i]? =some σ.cel[i]:=List.getElem?_eq_getElem e2
 have ho:σ.obj S (.cel σ.cfid i)=some (.cell σ.cel[i]):=by simp [St.obj,hi]
 refine A0e (hs.core.rep _ _ ho) fun u hu hr=>wpAny_storeName_cell hs.eok.kfun k1 (hs.cel i x e1) hu fun h' hc hb=>k {s with heap:=h'} ?_
 exact⟨hs.core.set (ob':=({σ with cel:=σ.cel.set i (some a)}:St).obj S) h' s.toks s.drawn ho (fun b oo hb' e=>(hb.2 b hb').trans e) (o:= .cell (some a)) ⟨_,hc,v,rfl,hv⟩ (fun j hj=>C2w σ i _ j hj) (by simp [St.obj,e2]),hs.ok,hs.eok,⟨hs.pin.tmp,hs.pin.win,hs.pin.kid,hs.pin.tree,hs.pin.wdic,hs.pin.deck⟩,hs.fid,hs.loc,fun f hf=>C9a hb (hs.top f hf) (let ⟨o,e,_⟩:=hc;⟨o,e⟩),hs.cel,hs.ll,by simpa using hs.lc⟩
theorem Res.of{α β:Type}{R:(Key→Prop)→Gh→(Key→Addr)→β→α→Prop}{P z y Φ}{Q:β→St→Prop}{a:α}{s:Shared}{b:β}{σ':St}(hs:Sim S env σ' P z y Φ s)(hr:R P z Φ b a)(hq:Q b σ'):Res S env R P z y Φ Q a s:=⟨P,z,Φ,σ',b,Ext.refl,hr,hs,hq⟩
theorem A1y{P z Φ}:RF S P z Φ .next .next:=rfl
theorem B3r{P z Φ}{a:AV}{v:Value}(h:A1i S P z Φ a v):RF S P z Φ (.ret a) (.ret v):=⟨v,rfl,h⟩
theorem A0x{Q:AF→St→Prop}(h:Q .next σ):W S d r env (RF S) (execs [] env) σ Q X:=fun A P z y Φ s hA hs=>wpAny_execs_nil (Res.of (b:= .next) hs A1y h)
theorem A4e{st:Stmt}{rest:List Stmt}{Q:AF→St→Prop}(h:W S d r env (RF S) (exec st env) σ (fun f σ₁=>B8q f σ₁ (fun σ₂=>W S d r env (RF S) (execs rest env) σ₂ Q X) Q) X):
  W S d r env (RF S) (execs (st::rest) env) σ Q X:=fun A P z y Φ s hA hs=>by
 refine wpAny_execs_cons (h.run hA hs (fun f s₁ P₁ z₁ Φ₁ σ₁ b x₁ r₁ hs₁ h₁=>?_) fun _ _ e=>e)
 cases b with
 |next=>
  have e:f= .next:=r₁
  subst e
  exact(show W S d r env (RF S) (execs rest env) σ₁ Q X from h₁).run hA hs₁ (fun g s₂ P₂ z₂ Φ₂ σ₂ c x₂ r₂ hs₂ h₂=>Res.intro (x₁.trans x₂) r₂ hs₂ h₂) fun e s' hx=>hx.ext x₁
 |ret a=>
  obtain ⟨v,rfl,hv⟩:=(r₁: ∃v,f= .ret v∧A1i S P₁ z₁ Φ₁ a v)
  exact Res.intro (b:= .ret a) x₁ (B3r hv) hs₁ (show Q (.ret a) σ₁ from h₁)
theorem A0h{st:Stmt}{rest:List Stmt}{Q:AF→St→Prop}(h:let K:AF→St→Prop:=fun f σ₁=>B8q f σ₁ (fun σ₂=>W S d r env (RF S) (execs rest env) σ₂ Q X) Q;W S d r env (RF S) (exec st env) σ K X):
  W S d r env (RF S) (execs (st::rest) env) σ Q X:=A4e h
theorem A5x{x:Str}{p' value pos}{Q:AF→St→Prop}(hsw:swapsWith value (some (.Name x p')) pos.line env=pure false)(h:W S d r env (RV S) (eval value env) σ (fun a σ₁=>A9c σ₁ x a (Q .next)) X):
  W S d r env (RF S) (exec (.Assign [.Name x p'] value pos) env) σ Q X:=fun A P z y Φ s hA hs=>by
 refine wpAny_Assign_Name (h.run hA hs (fun v s₁ P₁ z₁ Φ₁ σ₁ a x₁ r₁ hs₁ h₁=>?_) fun _ _ e=>e) hsw
 refine A0e h₁ fun l' hp hq=>?_
 try clear h₁
 exact A3b hs₁ hp r₁ fun s' hs'=>Res.intro (b:= .next) x₁ A1y hs' hq
theorem B8w{x:Str}{p' value pos}{Q:AF→St→Prop}(hsw:swapsWith value (some (.Name x p')) pos.line env=pure false)(h:W S d r env (RV S) (eval value env) σ (fun a σ₁=>D5r σ₁ x a (Q .next)) X):
  W S d r env (RF S) (exec (.Assign [.Name x p'] value pos) env) σ Q X:=fun A P z y Φ s hA hs=>by
 refine wpAny_Assign_Name (h.run hA hs (fun v s₁ P₁ z₁ Φ₁ σ₁ a x₁ r₁ hs₁ h₁=>?_) fun _ _ e=>e) hsw
 refine A0e h₁ fun l' hp hq=>?_
 try clear h₁
 exact B9b hs₁ hp r₁ fun s' hs'=>Res.intro (b:= .next) x₁ A1y hs' hq
theorem A0u{e pos}{Q:AF→St→Prop}(h:W S d r env (RV S) (eval e env) σ (fun a σ₁=>Q (.ret a) σ₁) X):W S d r env (RF S) (exec (.Return (some e) pos) env) σ Q X:=fun A P z y Φ s hA hs=>
 wpAny_Return_some (h.run hA hs (fun v s₁ P₁ z₁ Φ₁ σ₁ a x₁ r₁ hs₁ h₁=>Res.intro (b:= .ret a) x₁ (B3r r₁) hs₁ h₁) fun _ _ e=>e)
theorem C3z{pos}{Q:AF→St→Prop}(h:Q (.ret .none) σ):W S d r env (RF S) (exec (.Return none pos) env) σ Q X:=fun A P z y Φ s hA hs=>
 wpAny_Return_none (Res.of (b:= .ret .none) hs (B3r B6u) h)
theorem C8z{test body orelse pos}{Q:AF→St→Prop}(h:W S d r env RB (isTrue test env (eval test env)) σ (fun b σ₁=>(b=true→W S d r env (RF S) (execs body env) σ₁ Q X)∧(b=false→W S d r env (RF S) (execs orelse env) σ₁ Q X)) X):
  W S d r env (RF S) (exec (.If test body orelse pos) env) σ Q X:=fun A P z y Φ s hA hs=>by
 refine wpAny_If (h.run hA hs (fun b s₁ P₁ z₁ Φ₁ σ₁ b' x₁ r₁ hs₁ h₁=>?_) fun _ _ e=>e)
 have e:b=b':=r₁
 subst e
 cases b with
 |true=>exact(h₁.1 rfl).run hA hs₁ (fun g s₂ P₂ z₂ Φ₂ σ₂ c x₂ r₂ hs₂ h₂=>Res.intro (x₁.trans x₂) r₂ hs₂ h₂) fun e s' hx=>hx.ext x₁
 |false=>exact(h₁.2 rfl).run hA hs₁ (fun g s₂ P₂ z₂ Φ₂ σ₂ c x₂ r₂ hs₂ h₂=>Res.intro (x₁.trans x₂) r₂ hs₂ h₂) fun e s' hx=>hx.ext x₁
theorem A6k{test body orelse pos}{Q:AV→St→Prop}(h:W S d r env RB (isTrue test env (eval test env)) σ (fun b σ₁=>(b=true→W S d r env (RV S) (eval body env) σ₁ Q X)∧(b=false→W S d r env (RV S) (eval orelse env) σ₁ Q X)) X):
  W S d r env (RV S) (eval (.IfExp test body orelse pos) env) σ Q X:=fun A P z y Φ s hA hs=>by
 refine IfExp_ (h.run hA hs (fun b s₁ P₁ z₁ Φ₁ σ₁ b' x₁ r₁ hs₁ h₁=>?_) fun _ _ e=>e)
 have e:b=b':=r₁
 subst e
 cases b with
 |true=>exact(h₁.1 rfl).run hA hs₁ (fun g s₂ P₂ z₂ Φ₂ σ₂ c x₂ r₂ hs₂ h₂=>Res.intro (x₁.trans x₂) r₂ hs₂ h₂) fun e s' hx=>hx.ext x₁
 |false=>exact(h₁.2 rfl).run hA hs₁ (fun g s₂ P₂ z₂ Φ₂ σ₂ c x₂ r₂ hs₂ h₂=>Res.intro (x₁.trans x₂) r₂ hs₂ h₂) fun e s' hx=>hx.ext x₁
theorem A3k{l op e pos whole}{Q:Bool→St→Prop}(hm:behindInMarks op e=false)(h:W S d r env (RV S) (eval l env) σ (fun a σ₁=>W S d r env (RV S) (eval e env) σ₁ (fun b σ₂=>
   W1 S d r env (R2 S) (RV S) (fun v:Value×Value=>compareOp op v.1 v.2) (a,b) σ₂ (fun c σ₃=>IsB c fun b=>Q b σ₃) X) X) X):W S d r env RB (isTrue (.Compare l [op] [e] pos) env whole) σ Q X:=fun A P z y Φ s hA hs=>
 wpAny_isTrue_Compare1 (h.run hA hs (fun v s₁ P₁ z₁ Φ₁ σ₁ a x₁ r₁ hs₁ h₁=>h₁.run hA hs₁ (fun u s₂ P₂ z₂ Φ₂ σ₂ b x₂ r₂ hs₂ h₂=>
  W1.run (v:=(v,u)) h₂ hA hs₂ ⟨A1i.mono x₂.toExt0 _ _ r₁,r₂⟩ (fun c s₃ P₃ z₃ Φ₃ σ₃ g x₃ r₃ hs₃ q=>by
   cases g with
   |bool b=>have e:=A8d r₃;subst e;exact wpAny_truthy_bool (Res.intro (b:=b) ((x₁.trans x₂).trans x₃) rfl hs₃ q)
   |_=>exact False.elim q) fun e s' hx=>hx.ext (x₁.trans x₂)) fun e s' hx=>hx.ext x₁) fun e s' hx=>hx) hm
theorem A7k{e:Expr}{whole:Sem Value}{Q:Bool→St→Prop}(he:isTrue e env whole=(do let v ←whole;standAt e.pos;holding [v] (truthy v)))(h:W S d r env (RV S) whole σ (fun c σ₁=>IsB c fun b=>Q b σ₁) X):
  W S d r env RB (isTrue e env whole) σ Q X:=fun A P z y Φ s hA hs=>
 isTrue_plain (h.run hA hs (fun c s₃ P₃ z₃ Φ₃ σ₃ g x₃ r₃ hs₃ q=>by
   cases g with
   |bool b=>have e:=A8d r₃;subst e;exact wpAny_truthy_bool (Res.intro (b:=b) x₃ rfl hs₃ q)
   |_=>exact False.elim q) fun e s' hx=>hx) he
theorem C9s{e pos whole}{Q:Bool→St→Prop}(h:W S d r env RB (isTrue e env (eval e env)) σ (fun b σ₁=>Q (!b) σ₁) X):W S d r env RB (isTrue (.UnaryOp .Not e pos) env whole) σ Q X:=fun A P z y Φ s hA hs=>
 isTrue_not (h.run hA hs (fun c s₃ P₃ z₃ Φ₃ σ₃ g x₃ r₃ hs₃ q=>by have e:c=g:=r₃;subst e;exact Res.intro (b:= !c) x₃ rfl hs₃ q) fun e s' hx=>hx)
theorem A6m{pos whole}{Q:Bool→St→Prop}(h:Q true σ):W S d r env RB (isTrue (.BoolOp .And [] pos) env whole) σ Q X:=fun A P z y Φ s hA hs=>isTrue_and_nil (Res.of (b:=true) hs rfl h)
theorem A5y{pos whole}{Q:Bool→St→Prop}(h:Q false σ):W S d r env RB (isTrue (.BoolOp .Or [] pos) env whole) σ Q X:=fun A P z y Φ s hA hs=>isTrue_or_nil (Res.of (b:=false) hs rfl h)
theorem A7l{e rest pos whole}{Q:Bool→St→Prop}(h:W S d r env RB (isTrue e env (eval e env)) σ (fun b σ₁=>(b=true→W S d r env RB (isTrue (.BoolOp .And rest pos) env whole) σ₁ Q X)∧(b=false→Q false σ₁)) X):
  W S d r env RB (isTrue (.BoolOp .And (e::rest) pos) env whole) σ Q X:=fun A P z y Φ s hA hs=>
 isTrue_and (h.run hA hs (fun c s₁ P₁ z₁ Φ₁ σ₁ g x₁ r₁ hs₁ q=>by
  have e:c=g:=r₁
  subst e
  cases c with
  |true=>exact(q.1 rfl).run hA hs₁ (fun g s₂ P₂ z₂ Φ₂ σ₂ c x₂ r₂ hs₂ h₂=>Res.intro (x₁.trans x₂) r₂ hs₂ h₂) fun e s' hx=>hx.ext x₁
  |false=>exact Res.intro (b:=false) x₁ rfl hs₁ (q.2 rfl)) fun e s' hx=>hx)
theorem B5c{e rest pos whole}{Q:Bool→St→Prop}(h:W S d r env RB (isTrue e env (eval e env)) σ (fun b σ₁=>(b=true→Q true σ₁)∧(b=false→W S d r env RB (isTrue (.BoolOp .Or rest pos) env whole) σ₁ Q X)) X):
  W S d r env RB (isTrue (.BoolOp .Or (e::rest) pos) env whole) σ Q X:=fun A P z y Φ s hA hs=>
 isTrue_or (h.run hA hs (fun c s₁ P₁ z₁ Φ₁ σ₁ g x₁ r₁ hs₁ q=>by
  have e:c=g:=r₁
  subst e
  cases c with
  |true=>exact Res.intro (b:=true) x₁ rfl hs₁ (q.1 rfl)
  |false=>exact(q.2 rfl).run hA hs₁ (fun g s₂ P₂ z₂ Φ₂ σ₂ c x₂ r₂ hs₂ h₂=>Res.intro (x₁.trans x₂) r₂ hs₂ h₂) fun e s' hx=>hx.ext x₁) fun e s' hx=>hx)
end
theorem B0w{S:SP}{P z Φ}{f:Str}{a:AV}{m:List (Str×AV)}{es:List DictEntry}(he:A8j S P z Φ m es)(h:m.lookup f=some a): ∃v,getL f es=some (some v)∧A1i S P z Φ a v:=by
 induction m generalizing es with
 |nil=>exact k1 h
 |cons p m ih=>
  obtain ⟨x,b⟩:=p
  refine C8o he.un fun e r t y9a hk hv hr=>?_
  subst y9a
  simp only [getL,List.find?_cons]
  rw [show e.key.isStr f=(x == f)by rw [hk];rfl]
  simp only [List.lookup_cons]at h
  by_cases q:f=x
  ·subst q;simp at h;subst h;simp only [beq_self_eq_true];exact⟨_,rfl,hv⟩
  ·have q1:(f == x)=false:=by simpa using q
   have q2:(x == f)=false:=by simpa using fun e=>q e.symm
   rw [q1]at h;rw [q2]
   refine A0e (ih hr h) fun v g hv'=>A1f v ?_ hv'
   simp only [getL]at g
   dsimp only
   split at g
   ·rename_i e' he';rw [he'];exact g
   ·split at g <;> simp at g
noncomputable def A8m(x:Str)(a:AV):List (Str×AV)→List (Str×AV)
 | []=> [(x,a)]
 | (y,b)::m=>if y=x then(y,a)::m else(y,b)::A8m x a m
theorem A8m.e0{x:Str}{a:AV}:A8m x a []=([(x,a)]):=rfl
theorem A8m.e1{x:Str}{a:AV}{y b m}:A8m x a ((y,b)::m)=(if y=x then(y,a)::m else(y,b)::A8m x a m):=rfl
theorem C2a{S:SP}{P z Φ}{f:Str}{a:AV}{v:Value}{hsh:Int}{t:Tok}(hv:A1i S P z Φ a v){m:List (Str×AV)}{es:List DictEntry}(he:A8j S P z Φ m es):A8j S P z Φ (A8m f a m) (putL f hsh (.str f t) v es):=by
 induction m generalizing es with
 |nil=>obtain rfl:es= []:=he;exact A8j.cons (t:=t) rfl hv rfl
 |cons p m ih=>
  obtain ⟨x,b⟩:=p
  refine C8o he.un fun e r t' y9a hk hb hr=>?_
  subst y9a
  have hs:e.key.isStr f=(x == f):=by rw [hk];rfl
  simp only [A8m.e1,putL,hs]
  by_cases q:x=f
  ·subst q;simp only [beq_self_eq_true,if_true];exact A8j.cons hk hv hr
  ·have q2:(x == f)=false:=by simpa using q
   rw [if_neg q,q2]
   exact A8j.cons hk hb (ih hr)
theorem B7q{S:SP}{P z Φ}: ∀{m:List (Str×AV)} {es:List DictEntry},A8j S P z Φ m es→es.length=m.length
 | [],es,he=>by simp only [A8j.e0,A8j.e1]at he;subst he;rfl
 | (x,b)::m,es,he=>by simp only [A8j.e0,A8j.e1]at he;obtain ⟨e,r,t',rfl,hk,hb,hr⟩:=he;simp [B7q hr]
theorem B9t{S:SP}{P z Φ}(f:Str){m:List (Str×AV)}{es:List DictEntry}(h:A8j S P z Φ m es):(getL f es).isSome=true:=by
 have:es.any (·.refKey)=false:=by
  induction m generalizing es with
  |nil=>simp only [A8j.e0,A8j.e1]at h;subst h;rfl
  |cons p m ih=>
   obtain ⟨x,b⟩:=p;simp only [A8j.e0,A8j.e1]at h;obtain ⟨e,r,t',rfl,hk,hb,hr⟩:=h
   have q:e.refKey=false:=by unfold DictEntry.refKey;rw [hk]
   simp only [List.any_cons,q,ih hr];rfl
 unfold getL
 split
 ·rfl
 ·rw [this];rfl
theorem D0c{prog:Program}{w:World}{A:Around}{R:Result→Shared→Prop}{s:Shared}{K:Frag}{x C dx:Addr}{es:List DictEntry}{n:Nat}{name:Str}{tk:Tok}{v:Value}(X:K.In s.heap)
  (hx:s.heap.get? x=some (instObj C dx)) (hd:s.heap.get? dx=some (dictOf es n)) (hk:B2l K C name=true) (hl:(getL name es).isSome=true) (hz:es.length≤200)
  (h: ∀h',h'.get? dx=some (dictOf (putL name (PyData.keyHash w.params name) (.str name s.toks) v es) (putN name es n))→(∀b o,b≠dx→s.heap.get? b=some o→h'.get? b=some o)→R (.ok (.ret .none)) {s with heap:=h',toks:=s.toks+1}):
  codeAny (model prog w) A (.call (.builtin "object.__setattr__") ⟨[.ref x,.str name tk,v],[]⟩) R s:=by
 simp [B2l,Bool.and_eq_true,beq_iff_eq]at hk
 refine A0f hk fun y9a hh=>?_
 try clear hk
 obtain ⟨⟨hs,hp⟩,ht⟩:=y9a
 have I:InstAt s.heap x (instObj C dx) C (some (dictOf es n)):=⟨hx,rfl,rfl,hd⟩
 refine osa_open X I hp ht fun b=>A0e (any_some hh) fun cd hc hd'=>wpAny_bind (wpAny_pure (wpAny_bind (wpAny_bind (wpAny_loadPart hx (wpAny_bind ((looks_clsIn X hc).here ?_))))))
 rw [hd']
 refine wpAny_pure (a:=some dx) (wpAny_bind (wpAny_pure (wpAny_bind ?_)))
 unfold nsSet
 refine wpAny_bind (wpAny_bind (wpAny_askSetting (wpAny_pure (wpAny_bind (wpAny_mkText (wpAny_bind (wpAny_loadPart (o:=dictOf es n) hd ?_)))))))
 dsimp only
 have c:(!es.toArray.any (·.key.isStr name) && es.toArray.any (·.refKey))=false:=by
  rw [←Array.any_toList,←Array.any_toList]
  dsimp only
  unfold getL at hl
  split at hl
  ·rename_i en he
   rw [List.any_eq_true.mpr ⟨en,List.mem_of_find?_eq_some he,List.find?_some he⟩];rfl
  ·split at hl
   ·exact k4 hl
   ·rename_i zz;rw [Bool.not_eq_true]at zz;simp only [zz,Bool.and_false]
 simp only [aRefKeyMayBeTheName_at,c]
 have D':(s.heap.update dx (Obj.putName name (PyData.keyHash w.params name) (.str name s.toks) v)).get? dx=some (dictOf (putL name (PyData.keyHash w.params name) (.str name s.toks) v es) (putN name es n)):=by
  rw [Heap.get?_update_self _ hd (by rw [putName_dict];rfl),putName_dict]
 refine wpAny_updatePart (o:=dictOf es n) hd (wpAny_bind (wpAny_lookBehind (o:=dictOf (putL name (PyData.keyHash w.params name) (.str name s.toks) v es) (putN name es n)) D' (pastItsLine_dict ?_) ?_))
 ·simp only [List.size_toArray,sizeLine_eq]
  have: ∀l:List DictEntry,(putL name (PyData.keyHash w.params name) (.str name s.toks) v l).length≤l.length+1:=by
   intro l
   induction l with
   |nil=>exact Nat.le_refl _
   |cons e r ih=>simp only [putL];split <;> simp;omega
  have:=this es
  lia
 ·exact wpAny_pure (h _ D' fun b o hb e=>(Heap.get?_update_other _ _ (Ne.symm hb)).trans e)
theorem C4m{prog:Program}{w:World}{A:Around}{E:Value→Shared→Prop}{s:Shared}{K:Frag}{x C dx:Addr}{es:List DictEntry}{n:Nat}{name:Str}{v:Value}{Q:Unit→Shared→Prop}(X:K.In s.heap)
  (hx:s.heap.get? x=some (instObj C dx)) (hd:s.heap.get? dx=some (dictOf es n)) (hk:B2l K C name=true) (hl:(getL name es).isSome=true) (hz:es.length≤200)
  (h: ∀h',h'.get? dx=some (dictOf (putL name (PyData.keyHash w.params name) (.str name (s.toks+1)) v es) (putN name es n))→(∀b o,b≠dx→s.heap.get? b=some o→h'.get? b=some o)→Q () {s with heap:=h',toks:=s.toks+2}):
  wpAny (model prog w) A (setAttr (.ref x) name v) Q E s:=by
 have hs:findIn K (.ref C) "__setattr__"=some (some (.builtin "object.__setattr__")):=by
  simp [B2l,Bool.and_eq_true,beq_iff_eq]at hk;exact hk.1.1.1
 exact set_plain X (od:=some (dictOf es n)) ⟨hx,rfl,rfl,hd⟩ hs (D0c (s:={s with toks:=s.toks+1}) X hx hd hk hl hz h)
section
variable {S:SP} {d:Nat} {r:Bool} {env:Env} {σ:St} {X:St→Prop}
theorem A3q{e f pos}{Q:AV→St→Prop}
  (he:eval (.Attribute e f pos) env=(do
   let o ←eval e env
   standAt pos.atName
   let r ←holding [o] (getAttr o f true)
   letTemporaryGo e o r
   pure r))
  (h:W S d r env (RV S) (eval e env) σ (fun a σ₁=>W1 S d r env (RV S) (RV S) (fun v=>getAttr v f true) a σ₁ Q X) X):W S d r env (RV S) (eval (.Attribute e f pos) env) σ Q X:=fun A P z y Φ s hA hs=>
 Attribute_any_ (h.run hA hs (fun v s₁ P₁ z₁ Φ₁ σ₁ a x₁ r₁ hs₁ h₁=>W1.run (V:=RV S) (g:=a) h₁ hA hs₁ r₁ (fun c s₃ P₃ z₃ Φ₃ σ₃ g x₃ r₃ hs₃ q=>Res.intro (x₁.trans x₃) r₃ hs₃ q) fun e s' hx=>hx.ext x₁) fun e s' hx=>hx) he
theorem B9s{P z Φ}{a:AV}{v:Value}(hb:a≠ .opq)(h:A1i S P z Φ a v):handedIn v=true:=by
 cases a with
 |opq=>exact absurd rfl hb
 |none=>refine(congrArg _ (A7z h)).trans ?_;rfl
 |bool b=>refine(congrArg _ (A8d h)).trans ?_;rfl
 |int i=>obtain ⟨t,rfl⟩:=A0r h;rfl
 |str x=>obtain ⟨t,rfl⟩:=A9r h;rfl
 |ref k=>refine(congrArg _ ((A1s h).2)).trans ?_;rfl
 |lst l=>obtain ⟨a,_,_,rfl,_⟩:=A8h h;rfl
 |tup l=>obtain ⟨a,_,_,rfl,_⟩:=A7p h;rfl
 |dic ks l=>obtain ⟨a,_,_,rfl,_⟩:=B1b h;rfl
 |rul r c=>obtain ⟨a,_,_,_,_,_,rfl,_⟩:=C4q h;rfl
theorem A3e{k dk:Key}{C:Addr}{m:List (Str×AV)}{f:Str}{a:AV}{ex:Bool}{Q:AV→St→Prop}(h1:σ.obj S k=some (.inst C dk))(h2:σ.obj S dk=some (.ns m))(hf:A9v S.K C f=true)(hm:m.lookup f=some a)(hb:a≠ .opq)(h:Q a σ):
  W1 S d r env (RV S) (RV S) (fun v=>getAttr v f ex) (.ref k) σ Q X:=fun A P z y Φ s v hA hs hv=>by
 refine A0f (A1s hv) fun _ y9a=>?_
 obtain rfl:=y9a
 refine A0f (hs.core.rep _ _ h1) fun g1 g2=>A3w (hs.core.rep _ _ h2) fun es n g3 g4=>?_
 simp [A9v,Bool.and_eq_true,beq_iff_eq]at hf
 refine A0f hf fun y9a f3=>?_
 try clear hf
 obtain ⟨f1,f2⟩:=y9a
 refine A0e (B0w g4 hm) fun u q1 q2=>?_
 exact get_value hs.kin ⟨g1,rfl,rfl,g3⟩ (plainGet_of f1).1 (findObj_own f2 f3 rfl (show lookIn f (dictOf es n)=some (some u) from q1)) (B9s hb q2) (Res.of (b:=a) (hs.tok _) q2 h)
theorem C1s{k dk:Key}{C:Addr}{m:List (Str×AV)}{f:Str}{a:AV}{σ':St}{A P z y Φ s}{v:Value}{E:Value→Shared→Prop}{K:Unit→Shared→Prop}(hs:Sim S env σ P z y Φ s)(h1:σ.obj S k=some (.inst C dk))(h2:σ.obj S dk=some (.ns m))(hf:B2l S.K C f=true)
  (hv:A1i S P z Φ a v) (hl:m.length≤50) (ho: ∀j,j≠dk→σ'.obj S j=σ.obj S j) (hod:σ'.obj S dk=some (.ns (A8m f a m)))
  (k': ∀s',Core S (σ'.obj S) P z y Φ s'→(∀b,(∃o,s.heap.get? b=some o)→ ∃o,s'.heap.get? b=some o)→K () s'):wpAny (model S.prog S.w) A (setAttr (.ref (Φ k)) f v) K E s:=by
 refine A0f (hs.core.rep _ _ h1) fun g1 g2=>A3w (hs.core.rep _ _ h2) fun es n g3 g4=>?_
 have hlen:=B7q g4
 refine C4m hs.kin g1 g3 hf (B9t f g4) (by exact Z1 hl hlen) fun h' e1 e2=>k' _ ?_ fun b ⟨o,e⟩=>by
  by_cases q:b=Φ dk
  ·rw [q];exact⟨_,e1⟩
  ·exact ⟨_,e2 b o q e⟩
 exact hs.core.set h' _ s.drawn h2 e2 (o:= .ns (A8m f a m)) ⟨_,_,e1,C2a hv g4⟩ ho hod
end
theorem B6i(n m:Int)(w':Win): ∀l:List (Int×Win),(l.map fun p=>if p.1=n then(p.1,w')else p).lookup m=if m=n then(l.lookup n).map (fun _=>w')else l.lookup m
 | []=>by by_cases h:m=n <;> simp [h]
 | (k,w)::l=>by
  have ih:=B6i n m w' l
  simp only [List.map_cons]
  by_cases h:m=n
  ·subst h
   simp [if_true]at ih ⊢
   by_cases hk:k=m
   ·subst hk;simp
   ·have:(m == k)=false:=by simpa using fun e=>hk e.symm
    simp [hk,List.lookup_cons,this,ih]
  ·simp [h,if_false]at ih ⊢
   by_cases hk:k=n
   ·subst hk
    have:(m == k)=false:=by simpa using h
    simp [List.lookup_cons,this,ih]
   ·simp [hk,if_false,List.lookup_cons,ih]
theorem Tree.get_put(t:Tree)(n m:Int)(w':Win):(t.put n w').get m=if m=n then(t.get n).map (fun _=>w')else t.get m:=B6i n m w' t.wins
theorem Tree.get_put_self{t:Tree}{n:Int}{w:Win}(h:t.get n=some w)(w':Win):(t.put n w').get n=some w':=by rw [Tree.get_put,if_pos rfl,h];rfl
theorem Tree.get_put_ne{t:Tree}{n m:Int}(h:m≠n)(w':Win):(t.put n w').get m=t.get m:=by rw [Tree.get_put,if_neg h]
theorem Tree.keys_put(t:Tree)(n:Int)(w':Win):(t.put n w').wins.map (·.1)=t.wins.map (·.1):=by
 show(t.wins.map fun p=>if p.1=n then(p.1,w')else p).map (·.1)=_
 refine(List.map_map).trans ?_;apply List.map_congr_left;intro p _;dsimp only [Function.comp];split <;> rfl
theorem Tree.refs_put(t:Tree)(n:Int)(w':Win):(t.put n w').wins.map (fun p=>AV.ref (.win p.1))=t.wins.map (fun p=>AV.ref (.win p.1)):=by
 have h:=congrArg (List.map fun k:Int=>AV.ref (.win k)) (Tree.keys_put t n w')
 rw [List.map_map,List.map_map]at h;exact h
section
variable {S:SP} {d:Nat} {r:Bool} {env:Env} {σ:St} {X:St→Prop} {t:Tree} {n:Int} {w:Win}
theorem A2p(h1:σ.tr=some t)(h2:t.get n=some w):σ.find n=some (16,w):=by simp [St.find,h1,h2]
theorem C1u{p:Nat×Win}(h:σ.find n=some p):σ.obj S (.win n)=some (.inst S.CW (.winD n)):=by simp [St.obj,h]
theorem B0o{p:Nat×Win}(h:σ.find n=some p):σ.obj S (.winD n)=some (.ns ((p.2.fields n).take p.1)):=by simp [St.obj,h]
theorem A1p(h1:σ.tr=some t)(h2:t.get n=some w):σ.obj S (.win n)=some (.inst S.CW (.winD n)):=C1u (A2p h1 h2)
theorem A0v(h1:σ.tr=some t)(h2:t.get n=some w):σ.obj S (.winD n)=some (.ns (w.fields n)):=B0o (A2p h1 h2)
theorem A2o(h1:σ.tr=some t):σ.obj S .tree=some (.inst S.CT .treeD):=by simp [St.obj,h1]
theorem A1r(h1:σ.tr=some t):σ.obj S .treeD=some (.ns t.fields):=by simp [St.obj,h1]
theorem A2y(h1:σ.tr=some t)(h2:t.get n=some w)(w':Win)(m:Int):({σ with tr:=some (t.put n w')}:St).find m=if m=n then some (16,w')else σ.find m:=by
 by_cases q:m=n
 ·subst q;refine Eq.trans ?_ (if_pos rfl).symm;exact A2p rfl (Tree.get_put_self h2 _)
 ·refine Eq.trans ?_ (if_neg q).symm;simp only [St.find,h1,Option.bind_some,Tree.get_put_ne q]
theorem D0d(h1:σ.tr=some t)(h2:t.get n=some w)(w':Win)(hv:w'.ver=w.ver)(hk:w'.kids=w.kids)(j:Key)(h:j≠ .winD n):({σ with tr:=some (t.put n w')}:St).obj S j=σ.obj S j:=by
 cases j with
 |wdic=>simp only [St.obj,h1,Option.bind_some,Tree.keys_put,Tree.refs_put];rfl
 |tree=>simp [St.obj,h1]
 |treeD=>simp [St.obj,h1,Tree.fields,Tree.put]
 |win m=>
  simp only [St.obj,A2y h1 h2]
  by_cases q:m=n
  ·subst q;rw [if_pos rfl,A2p h1 h2];rfl
  ·exact congrArg _ (if_neg q)
 |winD m=>
  have q:m≠n:=fun e=>h (by exact congrArg _ (e))
  simp only [St.obj,A2y h1 h2,if_neg q]
 |kid m v=>
  simp only [St.obj,A2y h1 h2]
  by_cases q:m=n
  ·subst q;rw [if_pos rfl,A2p h1 h2];simp only [Option.bind_some,hv,hk]
  ·rw [if_neg q]
 |_=>rfl
theorem B2w{P:Key→Prop}(h1:σ.tr=some t)(h2:t.get n=some w)(w':Win)(hv:w.ver≤w'.ver)(p:PInv σ P):PInv {σ with tr:=some (t.put n w')} P:=by
 refine⟨p.tmp,fun m hm=>?_,fun m v hm=>?_,fun hm=>⟨_,rfl⟩,fun hm=>?_,p.deck⟩
 ·refine A0i (p.win m hm) fun q e=>?_
  simp only [A2y h1 h2]
  by_cases q:m=n
  ·exact ⟨_,if_pos q⟩
  ·exact ⟨_,(if_neg q).trans e⟩
 ·refine A2u (p.kid m v hm) fun q e e2 e3=>?_
  simp only [A2y h1 h2]
  by_cases q:m=n
  ·subst q;rw [A2p h1 h2]at e;cases e;exact⟨_,if_pos rfl,by omega,Nat.le_trans e3 hv⟩
  ·exact A8n _ ((if_neg q).trans e) e2 e3
 ·refine A0e (p.wdic hm) fun t' e e2=>?_
  rw [h1]at e;cases e;exact⟨_,rfl,e2⟩
theorem Sim.put{P z y Φ}{s s':Shared}(hs:Sim S env σ P z y Φ s)(h1:σ.tr=some t)(h2:t.get n=some w)(w':Win)(hv:w.ver≤w'.ver)(hc:Core S (({σ with tr:=some (t.put n w')}:St).obj S) P z y Φ s')(hl: ∀b,(∃o,s.heap.get? b=some o)→ ∃o,s'.heap.get? b=some o):Sim S env {σ with tr:=some (t.put n w')} P z y Φ s':=
 ⟨hc,hs.ok,hs.eok,B2w h1 h2 w' hv hs.pin,hs.fid,hs.loc,fun f hf=>hl _ (hs.top f hf),hs.cel,hs.ll,hs.lc⟩
theorem B0t(h1:σ.tr=some t)(t':Tree)(hw:t'.wins=t.wins)(m:Int):({σ with tr:=some t'}:St).find m=σ.find m:=by
 have hg: ∀m,t'.get m=t.get m:=fun m=>by unfold Tree.get;exact congrArg _ (hw)
 simp only [St.find,h1,Option.bind_some,hg]
theorem D1z(h1:σ.tr=some t)(t':Tree)(hw:t'.wins=t.wins)(hg:1≤t'.stg↔1≤t.stg)(j:Key)(h:j≠ .treeD):({σ with tr:=some t'}:St).obj S j=σ.obj S j:=by
 cases j with
 |treeD=>exact absurd rfl h
 |wdic=>simp [St.obj,h1,hw,hg]
 |tree=>simp [St.obj,h1]
 |win m=>simp only [St.obj,B0t h1 t' hw]
 |winD m=>simp only [St.obj,B0t h1 t' hw]
 |kid m v=>simp only [St.obj,B0t h1 t' hw]
 |_=>rfl
theorem D0b{P:Key→Prop}(h1:σ.tr=some t)(t':Tree)(hw:t'.wins=t.wins)(hg:1≤t'.stg↔1≤t.stg)(p:PInv σ P):PInv {σ with tr:=some t'} P:=by
 refine⟨p.tmp,fun m hm=>?_,fun m v hm=>?_,fun hm=>⟨_,rfl⟩,fun hm=>?_,p.deck⟩
 ·simp only [B0t h1 t' hw];exact p.win m hm
 ·rw [B0t h1 t' hw];exact p.kid m v hm
 ·refine A0e (p.wdic hm) fun t'' e e2=>?_
  rw [h1]at e;cases e;exact⟨_,rfl,hg.mpr e2⟩
theorem Sim.puttr{P z y Φ}{s s':Shared}(hs:Sim S env σ P z y Φ s)(h1:σ.tr=some t)(t':Tree)(hw:t'.wins=t.wins)(hg:1≤t'.stg↔1≤t.stg)(hc:Core S (({σ with tr:=some t'}:St).obj S) P z y Φ s')(hl: ∀b,(∃o,s.heap.get? b=some o)→ ∃o,s'.heap.get? b=some o):Sim S env {σ with tr:=some t'} P z y Φ s':=
 ⟨hc,hs.ok,hs.eok,D0b h1 t' hw hg hs.pin,hs.fid,hs.loc,fun f hf=>hl _ (hs.top f hf),hs.cel,hs.ll,hs.lc⟩
theorem B1o{f:Str}{a:AV}{w':Win}{Q:Unit→St→Prop}(h1:σ.tr=some t)(h2:t.get n=some w)(hf:f∈A7u)(hp:A8m f a (w.fields n)=w'.fields n)(hv:w'.ver=w.ver)(hk:w'.kids=w.kids)
  (h:Q () {σ with tr:=some (t.put n w')}):W1 S d r env (R2 S) RU (fun v:Value×Value=>setAttr v.1 f v.2) (.ref (.win n),a) σ Q X:=fun A P z y Φ s v hA hs hv2=>by
 obtain ⟨v1,v2⟩:=v
 refine A0f (A1s hv2.1) fun _ e1=>?_
 have e1:v1= .ref (Φ (.win n)):=e1
 subst e1
 exact C1s hs (A1p h1 h2) (A0v h1 h2) (hs.ok.ws f hf) hv2.2 (by show(16:Nat)≤50;exact Nat.le_of_ble_eq_true rfl) (fun j hj=>D0d h1 h2 w' hv hk j hj) (by simp only [hp];exact A0v rfl (Tree.get_put_self h2 w')) fun s' hc hl=>
  Res.of (b:=()) (hs.put h1 h2 w' (Nat.le_of_eq hv.symm) hc hl) trivial h
theorem B9d{f:Str}{a:AV}{t':Tree}{Q:Unit→St→Prop}(h1:σ.tr=some t)(hf:f∈A9g)(hp:A8m f a t.fields=t'.fields)(hw:t'.wins=t.wins)(hg:1≤t'.stg↔1≤t.stg)(hlen:t.fields.length≤50)
  (h:Q () {σ with tr:=some t'}):W1 S d r env (R2 S) RU (fun v:Value×Value=>setAttr v.1 f v.2) (.ref .tree,a) σ Q X:=fun A P z y Φ s v hA hs hv2=>by
 obtain ⟨v1,v2⟩:=v
 refine A0f (A1s hv2.1) fun _ e1=>?_
 have e1:v1= .ref (Φ .tree):=e1
 subst e1
 exact C1s hs (A2o h1) (A1r h1) (hs.ok.ts f hf) hv2.2 hlen (fun j hj=>D1z h1 t' hw hg j hj) (by simp only [hp];exact A1r rfl) fun s' hc hl=>
  Res.of (b:=()) (hs.puttr h1 t' hw hg hc hl) trivial h
theorem A4k{o f p' value pos}{Q:AF→St→Prop}(hsw:swapsWith value (some (.Attribute o f p')) pos.line env=pure false)(h:W S d r env (RV S) (eval value env) σ (fun a σ₁=>W S d r env (RV S) (eval o env) σ₁ (fun b σ₂=>
   W1 S d r env (R2 S) RU (fun v:Value×Value=>setAttr v.1 f v.2) (b,a) σ₂ (fun _=>Q .next) X) X) X):W S d r env (RF S) (exec (.Assign [.Attribute o f p'] value pos) env) σ Q X:=fun A P z y Φ s hA hs=>
 plainObj_wpAny_Assign_Attribute (h.run hA hs (fun v s₁ P₁ z₁ Φ₁ σ₁ a x₁ r₁ hs₁ h₁=>h₁.run hA hs₁ (fun u s₂ P₂ z₂ Φ₂ σ₂ b x₂ r₂ hs₂ h₂=>
  W1.run (v:=(u,v)) h₂ hA hs₂ ⟨r₂,A1i.mono x₂.toExt0 _ _ r₁⟩ (fun c s₃ P₃ z₃ Φ₃ σ₃ g x₃ r₃ hs₃ q=>Res.intro (b:= .next) ((x₁.trans x₂).trans x₃) A1y hs₃ q) fun e s' hx=>hx.ext (x₁.trans x₂)) fun e s' hx=>hx.ext x₁) fun e s' hx=>hx) hsw
theorem C5f:(w.fields n).lookup (Str.ofString "number")=some (.int n):=by rfl
theorem A2q{ex:Bool}{Q:AV→St→Prop}(h1:σ.tr=some t)(h2:t.get n=some w)(h:Q (.int n) σ):W1 S d r env (RV S) (RV S) (fun v=>getAttr v (Str.ofString "number") ex) (.ref (.win n)) σ Q X:=fun A P z y Φ s v hA hs=>
 A3e (A1p h1 h2) (A0v h1 h2) (hs.ok.wg _ (List.Mem.head _)) C5f (by simp) h A P z y Φ s v hA hs
theorem D0g:(w.fields n).lookup (Str.ofString "sort")=some (.int w.sort):=by rfl
theorem A4g{ex:Bool}{Q:AV→St→Prop}(h1:σ.tr=some t)(h2:t.get n=some w)(h:Q (.int w.sort) σ):W1 S d r env (RV S) (RV S) (fun v=>getAttr v (Str.ofString "sort") ex) (.ref (.win n)) σ Q X:=fun A P z y Φ s v hA hs=>
 A3e (A1p h1 h2) (A0v h1 h2) (hs.ok.wg _ (List.Mem.tail _ (List.Mem.head _))) D0g (by simp) h A P z y Φ s v hA hs
theorem C5e:(w.fields n).lookup (Str.ofString "parent")=some (.int w.parent):=by rfl
theorem A3v{ex:Bool}{Q:AV→St→Prop}(h1:σ.tr=some t)(h2:t.get n=some w)(h:Q (.int w.parent) σ):W1 S d r env (RV S) (RV S) (fun v=>getAttr v (Str.ofString "parent") ex) (.ref (.win n)) σ Q X:=fun A P z y Φ s v hA hs=>
 A3e (A1p h1 h2) (A0v h1 h2) (hs.ok.wg _ (List.Mem.tail _ (List.Mem.tail _ (List.Mem.head _)))) C5e (by simp) h A P z y Φ s v hA hs
theorem C4t{i:Int}:A8m (Str.ofString "parent") (.int i) (w.fields n)=({w with parent:=i}:Win).fields n:=by rfl
theorem C4n{i:Int}{Q:Unit→St→Prop}(h1:σ.tr=some t)(h2:t.get n=some w)(h:Q () {σ with tr:=some (t.put n {w with parent:=i})}):
  W1 S d r env (R2 S) RU (fun v:Value×Value=>setAttr v.1 (Str.ofString "parent") v.2) (.ref (.win n),.int i) σ Q X:=B1o h1 h2 (List.Mem.tail _ (List.Mem.tail _ (List.Mem.head _))) C4t rfl rfl h
theorem C1a:(w.fields n).lookup (Str.ofString "children")=some (.ref (.kid n w.ver)):=by rfl
theorem A2f{ex:Bool}{Q:AV→St→Prop}(h1:σ.tr=some t)(h2:t.get n=some w)(h:Q (.ref (.kid n w.ver)) σ):W1 S d r env (RV S) (RV S) (fun v=>getAttr v (Str.ofString "children") ex) (.ref (.win n)) σ Q X:=fun A P z y Φ s v hA hs=>
 A3e (A1p h1 h2) (A0v h1 h2) (hs.ok.wg _ (List.Mem.tail _ (List.Mem.tail _ (List.Mem.tail _ (List.Mem.head _))))) C1a (by simp) h A P z y Φ s v hA hs
theorem D0h:(w.fields n).lookup (Str.ofString "left")=some (.int w.left):=by rfl
theorem B1v{ex:Bool}{Q:AV→St→Prop}(h1:σ.tr=some t)(h2:t.get n=some w)(h:Q (.int w.left) σ):W1 S d r env (RV S) (RV S) (fun v=>getAttr v (Str.ofString "left") ex) (.ref (.win n)) σ Q X:=fun A P z y Φ s v hA hs=>
 A3e (A1p h1 h2) (A0v h1 h2) (hs.ok.wg _ (List.Mem.tail _ (List.Mem.tail _ (List.Mem.tail _ (List.Mem.tail _ (List.Mem.head _)))))) D0h (by simp) h A P z y Φ s v hA hs
theorem C9z{i:Int}:A8m (Str.ofString "left") (.int i) (w.fields n)=({w with left:=i}:Win).fields n:=by rfl
theorem C9x{i:Int}{Q:Unit→St→Prop}(h1:σ.tr=some t)(h2:t.get n=some w)(h:Q () {σ with tr:=some (t.put n {w with left:=i})}):
  W1 S d r env (R2 S) RU (fun v:Value×Value=>setAttr v.1 (Str.ofString "left") v.2) (.ref (.win n),.int i) σ Q X:=B1o h1 h2 (List.Mem.tail _ (List.Mem.tail _ (List.Mem.tail _ (List.Mem.tail _ (List.Mem.head _))))) C9z rfl rfl h
theorem D2h:(w.fields n).lookup (Str.ofString "top")=some (.int w.top):=by rfl
theorem B6k{ex:Bool}{Q:AV→St→Prop}(h1:σ.tr=some t)(h2:t.get n=some w)(h:Q (.int w.top) σ):W1 S d r env (RV S) (RV S) (fun v=>getAttr v (Str.ofString "top") ex) (.ref (.win n)) σ Q X:=fun A P z y Φ s v hA hs=>
 A3e (A1p h1 h2) (A0v h1 h2) (hs.ok.wg _ (List.Mem.tail _ (List.Mem.tail _ (List.Mem.tail _ (List.Mem.tail _ (List.Mem.tail _ (List.Mem.head _))))))) D2h (by simp) h A P z y Φ s v hA hs
theorem D1w{i:Int}:A8m (Str.ofString "top") (.int i) (w.fields n)=({w with top:=i}:Win).fields n:=by rfl
theorem D1u{i:Int}{Q:Unit→St→Prop}(h1:σ.tr=some t)(h2:t.get n=some w)(h:Q () {σ with tr:=some (t.put n {w with top:=i})}):
  W1 S d r env (R2 S) RU (fun v:Value×Value=>setAttr v.1 (Str.ofString "top") v.2) (.ref (.win n),.int i) σ Q X:=B1o h1 h2 (List.Mem.tail _ (List.Mem.tail _ (List.Mem.tail _ (List.Mem.tail _ (List.Mem.tail _ (List.Mem.head _)))))) D1w rfl rfl h
theorem C7m:(w.fields n).lookup (Str.ofString "width")=some (.int w.width):=by rfl
theorem A4p{ex:Bool}{Q:AV→St→Prop}(h1:σ.tr=some t)(h2:t.get n=some w)(h:Q (.int w.width) σ):W1 S d r env (RV S) (RV S) (fun v=>getAttr v (Str.ofString "width") ex) (.ref (.win n)) σ Q X:=fun A P z y Φ s v hA hs=>
 A3e (A1p h1 h2) (A0v h1 h2) (hs.ok.wg _ (List.Mem.tail _ (List.Mem.tail _ (List.Mem.tail _ (List.Mem.tail _ (List.Mem.tail _ (List.Mem.tail _ (List.Mem.head _)))))))) C7m (by simp) h A P z y Φ s v hA hs
theorem C7c{i:Int}:A8m (Str.ofString "width") (.int i) (w.fields n)=({w with width:=i}:Win).fields n:=by rfl
theorem C6r{i:Int}{Q:Unit→St→Prop}(h1:σ.tr=some t)(h2:t.get n=some w)(h:Q () {σ with tr:=some (t.put n {w with width:=i})}):
  W1 S d r env (R2 S) RU (fun v:Value×Value=>setAttr v.1 (Str.ofString "width") v.2) (.ref (.win n),.int i) σ Q X:=B1o h1 h2 (List.Mem.tail _ (List.Mem.tail _ (List.Mem.tail _ (List.Mem.tail _ (List.Mem.tail _ (List.Mem.tail _ (List.Mem.head _))))))) C7c rfl rfl h
theorem C5g:(w.fields n).lookup (Str.ofString "height")=some (.int w.height):=by rfl
theorem A3d{ex:Bool}{Q:AV→St→Prop}(h1:σ.tr=some t)(h2:t.get n=some w)(h:Q (.int w.height) σ):W1 S d r env (RV S) (RV S) (fun v=>getAttr v (Str.ofString "height") ex) (.ref (.win n)) σ Q X:=fun A P z y Φ s v hA hs=>
 A3e (A1p h1 h2) (A0v h1 h2) (hs.ok.wg _ (List.Mem.tail _ (List.Mem.tail _ (List.Mem.tail _ (List.Mem.tail _ (List.Mem.tail _ (List.Mem.tail _ (List.Mem.tail _ (List.Mem.head _))))))))) C5g (by simp) h A P z y Φ s v hA hs
theorem C4u{i:Int}:A8m (Str.ofString "height") (.int i) (w.fields n)=({w with height:=i}:Win).fields n:=by rfl
theorem C4o{i:Int}{Q:Unit→St→Prop}(h1:σ.tr=some t)(h2:t.get n=some w)(h:Q () {σ with tr:=some (t.put n {w with height:=i})}):
  W1 S d r env (R2 S) RU (fun v:Value×Value=>setAttr v.1 (Str.ofString "height") v.2) (.ref (.win n),.int i) σ Q X:=B1o h1 h2 (List.Mem.tail _ (List.Mem.tail _ (List.Mem.tail _ (List.Mem.tail _ (List.Mem.tail _ (List.Mem.tail _ (List.Mem.tail _ (List.Mem.head _)))))))) C4u rfl rfl h
theorem C5h:(w.fields n).lookup (Str.ofString "buffer")=some (.int w.buf):=by rfl
theorem A6r{ex:Bool}{Q:AV→St→Prop}(h1:σ.tr=some t)(h2:t.get n=some w)(h:Q (.int w.buf) σ):W1 S d r env (RV S) (RV S) (fun v=>getAttr v (Str.ofString "buffer") ex) (.ref (.win n)) σ Q X:=fun A P z y Φ s v hA hs=>
 A3e (A1p h1 h2) (A0v h1 h2) (hs.ok.wg _ (List.Mem.tail _ (List.Mem.tail _ (List.Mem.tail _ (List.Mem.tail _ (List.Mem.tail _ (List.Mem.tail _ (List.Mem.tail _ (List.Mem.tail _ (List.Mem.head _)))))))))) C5h (by simp) h A P z y Φ s v hA hs
theorem C4v{i:Int}:A8m (Str.ofString "buffer") (.int i) (w.fields n)=({w with buf:=i}:Win).fields n:=by rfl
theorem C4p{i:Int}{Q:Unit→St→Prop}(h1:σ.tr=some t)(h2:t.get n=some w)(h:Q () {σ with tr:=some (t.put n {w with buf:=i})}):
  W1 S d r env (R2 S) RU (fun v:Value×Value=>setAttr v.1 (Str.ofString "buffer") v.2) (.ref (.win n),.int i) σ Q X:=B1o h1 h2 (List.Mem.tail _ (List.Mem.tail _ (List.Mem.tail _ (List.Mem.tail _ (List.Mem.tail _ (List.Mem.tail _ (List.Mem.tail _ (List.Mem.tail _ (List.Mem.head _))))))))) C4v rfl rfl h
theorem C7n:(w.fields n).lookup (Str.ofString "start")=some (.int w.start):=by rfl
theorem C1w{ex:Bool}{Q:AV→St→Prop}(h1:σ.tr=some t)(h2:t.get n=some w)(h:Q (.int w.start) σ):W1 S d r env (RV S) (RV S) (fun v=>getAttr v (Str.ofString "start") ex) (.ref (.win n)) σ Q X:=fun A P z y Φ s v hA hs=>
 A3e (A1p h1 h2) (A0v h1 h2) (hs.ok.wg _ (List.Mem.tail _ (List.Mem.tail _ (List.Mem.tail _ (List.Mem.tail _ (List.Mem.tail _ (List.Mem.tail _ (List.Mem.tail _ (List.Mem.tail _ (List.Mem.tail _ (List.Mem.head _))))))))))) C7n (by simp) h A P z y Φ s v hA hs
theorem C7d{i:Int}:A8m (Str.ofString "start") (.int i) (w.fields n)=({w with start:=i}:Win).fields n:=by rfl
theorem C6s{i:Int}{Q:Unit→St→Prop}(h1:σ.tr=some t)(h2:t.get n=some w)(h:Q () {σ with tr:=some (t.put n {w with start:=i})}):
  W1 S d r env (R2 S) RU (fun v:Value×Value=>setAttr v.1 (Str.ofString "start") v.2) (.ref (.win n),.int i) σ Q X:=B1o h1 h2 (List.Mem.tail _ (List.Mem.tail _ (List.Mem.tail _ (List.Mem.tail _ (List.Mem.tail _ (List.Mem.tail _ (List.Mem.tail _ (List.Mem.tail _ (List.Mem.tail _ (List.Mem.head _)))))))))) C7d rfl rfl h
theorem C7o:(w.fields n).lookup (Str.ofString "point")=some (.int w.point):=by rfl
theorem C1x{ex:Bool}{Q:AV→St→Prop}(h1:σ.tr=some t)(h2:t.get n=some w)(h:Q (.int w.point) σ):W1 S d r env (RV S) (RV S) (fun v=>getAttr v (Str.ofString "point") ex) (.ref (.win n)) σ Q X:=fun A P z y Φ s v hA hs=>
 A3e (A1p h1 h2) (A0v h1 h2) (hs.ok.wg _ (List.Mem.tail _ (List.Mem.tail _ (List.Mem.tail _ (List.Mem.tail _ (List.Mem.tail _ (List.Mem.tail _ (List.Mem.tail _ (List.Mem.tail _ (List.Mem.tail _ (List.Mem.tail _ (List.Mem.head _)))))))))))) C7o (by simp) h A P z y Φ s v hA hs
theorem C7e{i:Int}:A8m (Str.ofString "point") (.int i) (w.fields n)=({w with point:=i}:Win).fields n:=by rfl
theorem C6t{i:Int}{Q:Unit→St→Prop}(h1:σ.tr=some t)(h2:t.get n=some w)(h:Q () {σ with tr:=some (t.put n {w with point:=i})}):
  W1 S d r env (R2 S) RU (fun v:Value×Value=>setAttr v.1 (Str.ofString "point") v.2) (.ref (.win n),.int i) σ Q X:=B1o h1 h2 (List.Mem.tail _ (List.Mem.tail _ (List.Mem.tail _ (List.Mem.tail _ (List.Mem.tail _ (List.Mem.tail _ (List.Mem.tail _ (List.Mem.tail _ (List.Mem.tail _ (List.Mem.tail _ (List.Mem.head _))))))))))) C7e rfl rfl h
theorem C2y:(w.fields n).lookup (Str.ofString "hscroll")=some (.int w.hscroll):=by rfl
theorem B6l{ex:Bool}{Q:AV→St→Prop}(h1:σ.tr=some t)(h2:t.get n=some w)(h:Q (.int w.hscroll) σ):W1 S d r env (RV S) (RV S) (fun v=>getAttr v (Str.ofString "hscroll") ex) (.ref (.win n)) σ Q X:=fun A P z y Φ s v hA hs=>
 A3e (A1p h1 h2) (A0v h1 h2) (hs.ok.wg _ (List.Mem.tail _ (List.Mem.tail _ (List.Mem.tail _ (List.Mem.tail _ (List.Mem.tail _ (List.Mem.tail _ (List.Mem.tail _ (List.Mem.tail _ (List.Mem.tail _ (List.Mem.tail _ (List.Mem.tail _ (List.Mem.head _))))))))))))) C2y (by simp) h A P z y Φ s v hA hs
theorem C2r{i:Int}:A8m (Str.ofString "hscroll") (.int i) (w.fields n)=({w with hscroll:=i}:Win).fields n:=by rfl
theorem C2n{i:Int}{Q:Unit→St→Prop}(h1:σ.tr=some t)(h2:t.get n=some w)(h:Q () {σ with tr:=some (t.put n {w with hscroll:=i})}):
  W1 S d r env (R2 S) RU (fun v:Value×Value=>setAttr v.1 (Str.ofString "hscroll") v.2) (.ref (.win n),.int i) σ Q X:=B1o h1 h2 (List.Mem.tail _ (List.Mem.tail _ (List.Mem.tail _ (List.Mem.tail _ (List.Mem.tail _ (List.Mem.tail _ (List.Mem.tail _ (List.Mem.tail _ (List.Mem.tail _ (List.Mem.tail _ (List.Mem.tail _ (List.Mem.head _)))))))))))) C2r rfl rfl h
theorem B4e:(w.fields n).lookup (Str.ofString "is_dedicated")=some (.bool w.ded):=by rfl
theorem A1m{ex:Bool}{Q:AV→St→Prop}(h1:σ.tr=some t)(h2:t.get n=some w)(h:Q (.bool w.ded) σ):W1 S d r env (RV S) (RV S) (fun v=>getAttr v (Str.ofString "is_dedicated") ex) (.ref (.win n)) σ Q X:=fun A P z y Φ s v hA hs=>
 A3e (A1p h1 h2) (A0v h1 h2) (hs.ok.wg _ (List.Mem.tail _ (List.Mem.tail _ (List.Mem.tail _ (List.Mem.tail _ (List.Mem.tail _ (List.Mem.tail _ (List.Mem.tail _ (List.Mem.tail _ (List.Mem.tail _ (List.Mem.tail _ (List.Mem.tail _ (List.Mem.tail _ (List.Mem.head _)))))))))))))) B4e (by simp) h A P z y Φ s v hA hs
theorem B3x{i:Bool}:A8m (Str.ofString "is_dedicated") (.bool i) (w.fields n)=({w with ded:=i}:Win).fields n:=by rfl
theorem B3q{i:Bool}{Q:Unit→St→Prop}(h1:σ.tr=some t)(h2:t.get n=some w)(h:Q () {σ with tr:=some (t.put n {w with ded:=i})}):
  W1 S d r env (R2 S) RU (fun v:Value×Value=>setAttr v.1 (Str.ofString "is_dedicated") v.2) (.ref (.win n),.bool i) σ Q X:=B1o h1 h2 (List.Mem.tail _ (List.Mem.tail _ (List.Mem.tail _ (List.Mem.tail _ (List.Mem.tail _ (List.Mem.tail _ (List.Mem.tail _ (List.Mem.tail _ (List.Mem.tail _ (List.Mem.tail _ (List.Mem.tail _ (List.Mem.tail _ (List.Mem.head _))))))))))))) B3x rfl rfl h
theorem C0z:(w.fields n).lookup (Str.ofString "use_time")=some (.int w.use):=by rfl
theorem B0g{ex:Bool}{Q:AV→St→Prop}(h1:σ.tr=some t)(h2:t.get n=some w)(h:Q (.int w.use) σ):W1 S d r env (RV S) (RV S) (fun v=>getAttr v (Str.ofString "use_time") ex) (.ref (.win n)) σ Q X:=fun A P z y Φ s v hA hs=>
 A3e (A1p h1 h2) (A0v h1 h2) (hs.ok.wg _ (List.Mem.tail _ (List.Mem.tail _ (List.Mem.tail _ (List.Mem.tail _ (List.Mem.tail _ (List.Mem.tail _ (List.Mem.tail _ (List.Mem.tail _ (List.Mem.tail _ (List.Mem.tail _ (List.Mem.tail _ (List.Mem.tail _ (List.Mem.tail _ (List.Mem.head _))))))))))))))) C0z (by simp) h A P z y Φ s v hA hs
theorem C0u{i:Int}:A8m (Str.ofString "use_time") (.int i) (w.fields n)=({w with use:=i}:Win).fields n:=by rfl
theorem C0s{i:Int}{Q:Unit→St→Prop}(h1:σ.tr=some t)(h2:t.get n=some w)(h:Q () {σ with tr:=some (t.put n {w with use:=i})}):
  W1 S d r env (R2 S) RU (fun v:Value×Value=>setAttr v.1 (Str.ofString "use_time") v.2) (.ref (.win n),.int i) σ Q X:=B1o h1 h2 (List.Mem.tail _ (List.Mem.tail _ (List.Mem.tail _ (List.Mem.tail _ (List.Mem.tail _ (List.Mem.tail _ (List.Mem.tail _ (List.Mem.tail _ (List.Mem.tail _ (List.Mem.tail _ (List.Mem.tail _ (List.Mem.tail _ (List.Mem.tail _ (List.Mem.head _)))))))))))))) C0u rfl rfl h
theorem C2z:(w.fields n).lookup (Str.ofString "earlier")=some (w.ear):=by rfl
theorem C3c{ex:Bool}{Q:AV→St→Prop}(h1:σ.tr=some t)(h2:t.get n=some w)(hb:w.ear≠ .opq)(h:Q (w.ear) σ):W1 S d r env (RV S) (RV S) (fun v=>getAttr v (Str.ofString "earlier") ex) (.ref (.win n)) σ Q X:=fun A P z y Φ s v hA hs=>
 A3e (A1p h1 h2) (A0v h1 h2) (hs.ok.wg _ (List.Mem.tail _ (List.Mem.tail _ (List.Mem.tail _ (List.Mem.tail _ (List.Mem.tail _ (List.Mem.tail _ (List.Mem.tail _ (List.Mem.tail _ (List.Mem.tail _ (List.Mem.tail _ (List.Mem.tail _ (List.Mem.tail _ (List.Mem.tail _ (List.Mem.tail _ (List.Mem.head _)))))))))))))))) C2z hb h A P z y Φ s v hA hs
theorem C2s{i:AV}:A8m (Str.ofString "earlier") (i) (w.fields n)=({w with ear:=i}:Win).fields n:=by rfl
theorem C2o{i:AV}{Q:Unit→St→Prop}(h1:σ.tr=some t)(h2:t.get n=some w)(h:Q () {σ with tr:=some (t.put n {w with ear:=i})}):
  W1 S d r env (R2 S) RU (fun v:Value×Value=>setAttr v.1 (Str.ofString "earlier") v.2) (.ref (.win n),i) σ Q X:=B1o h1 h2 (List.Mem.tail _ (List.Mem.tail _ (List.Mem.tail _ (List.Mem.tail _ (List.Mem.tail _ (List.Mem.tail _ (List.Mem.tail _ (List.Mem.tail _ (List.Mem.tail _ (List.Mem.tail _ (List.Mem.tail _ (List.Mem.tail _ (List.Mem.tail _ (List.Mem.tail _ (List.Mem.head _))))))))))))))) C2s rfl rfl h
theorem C7p:(w.fields n).lookup (Str.ofString "later")=some (w.lat):=by rfl
theorem C8e{ex:Bool}{Q:AV→St→Prop}(h1:σ.tr=some t)(h2:t.get n=some w)(hb:w.lat≠ .opq)(h:Q (w.lat) σ):W1 S d r env (RV S) (RV S) (fun v=>getAttr v (Str.ofString "later") ex) (.ref (.win n)) σ Q X:=fun A P z y Φ s v hA hs=>
 A3e (A1p h1 h2) (A0v h1 h2) (hs.ok.wg _ (List.Mem.tail _ (List.Mem.tail _ (List.Mem.tail _ (List.Mem.tail _ (List.Mem.tail _ (List.Mem.tail _ (List.Mem.tail _ (List.Mem.tail _ (List.Mem.tail _ (List.Mem.tail _ (List.Mem.tail _ (List.Mem.tail _ (List.Mem.tail _ (List.Mem.tail _ (List.Mem.tail _ (List.Mem.head _))))))))))))))))) C7p hb h A P z y Φ s v hA hs
theorem C7f{i:AV}:A8m (Str.ofString "later") (i) (w.fields n)=({w with lat:=i}:Win).fields n:=by rfl
theorem C6u{i:AV}{Q:Unit→St→Prop}(h1:σ.tr=some t)(h2:t.get n=some w)(h:Q () {σ with tr:=some (t.put n {w with lat:=i})}):
  W1 S d r env (R2 S) RU (fun v:Value×Value=>setAttr v.1 (Str.ofString "later") v.2) (.ref (.win n),i) σ Q X:=B1o h1 h2 (List.Mem.tail _ (List.Mem.tail _ (List.Mem.tail _ (List.Mem.tail _ (List.Mem.tail _ (List.Mem.tail _ (List.Mem.tail _ (List.Mem.tail _ (List.Mem.tail _ (List.Mem.tail _ (List.Mem.tail _ (List.Mem.tail _ (List.Mem.tail _ (List.Mem.tail _ (List.Mem.tail _ (List.Mem.head _)))))))))))))))) C7f rfl rfl h
noncomputable def Tree.S5(t:Tree):Prop:=t.stg=5∨t.stg=6∨t.stg=7
theorem Tree.s5(h:t.stg=7):t.S5:= .inr (.inr h)
theorem Tree.flen(t:Tree):t.fields.length≤50:=by unfold Tree.fields;rw [List.length_take];exact Nat.le_trans (Nat.min_le_right _ _) (by show 7≤50;exact Nat.le_of_ble_eq_true rfl)
theorem C0y(hS:t.S5):t.fields.lookup (Str.ofString "windows")=some (.ref .wdic):=by rcases hS with e|e|e <;> (unfold Tree.fields;simp only [e];rfl)
theorem A0s{ex:Bool}{Q:AV→St→Prop}(h1:σ.tr=some t)(hS:t.S5)(h:Q (.ref .wdic) σ):W1 S d r env (RV S) (RV S) (fun v=>getAttr v (Str.ofString "windows") ex) (.ref .tree) σ Q X:=fun A P z y Φ s v hA hs=>
 A3e (A2o h1) (A1r h1) (hs.ok.tg _ (List.Mem.head _)) (C0y hS) (by simp) h A P z y Φ s v hA hs
theorem C7l(hS:t.S5):t.fields.lookup (Str.ofString "last")=some (.int t.last):=by rcases hS with e|e|e <;> (unfold Tree.fields;simp only [e];rfl)
theorem B7m{ex:Bool}{Q:AV→St→Prop}(h1:σ.tr=some t)(hS:t.S5)(h:Q (.int t.last) σ):W1 S d r env (RV S) (RV S) (fun v=>getAttr v (Str.ofString "last") ex) (.ref .tree) σ Q X:=fun A P z y Φ s v hA hs=>
 A3e (A2o h1) (A1r h1) (hs.ok.tg _ (List.Mem.tail _ (List.Mem.head _))) (C7l hS) (by simp) h A P z y Φ s v hA hs
theorem C7b{i:Int}(hS:t.S5):A8m (Str.ofString "last") (.int i) t.fields=({t with last:=i}:Tree).fields:=by rcases hS with e|e|e <;> (unfold Tree.fields;rw [show({t with last:=i}:Tree).stg=t.stg from rfl,e];rfl)
theorem C9u{i:Int}{Q:Unit→St→Prop}(h1:σ.tr=some t)(hS:t.S5)(h:Q () {σ with tr:=some {t with last:=i}}):
  W1 S d r env (R2 S) RU (fun v:Value×Value=>setAttr v.1 (Str.ofString "last") v.2) (.ref .tree,.int i) σ Q X:=B9d h1 (List.Mem.tail _ (List.Mem.head _)) (C7b hS) rfl Iff.rfl t.flen h
theorem C5d(hS:t.S5):t.fields.lookup (Str.ofString "clock")=some (.int t.clock):=by rcases hS with e|e|e <;> (unfold Tree.fields;simp only [e];rfl)
theorem B7n{ex:Bool}{Q:AV→St→Prop}(h1:σ.tr=some t)(hS:t.S5)(h:Q (.int t.clock) σ):W1 S d r env (RV S) (RV S) (fun v=>getAttr v (Str.ofString "clock") ex) (.ref .tree) σ Q X:=fun A P z y Φ s v hA hs=>
 A3e (A2o h1) (A1r h1) (hs.ok.tg _ (List.Mem.tail _ (List.Mem.tail _ (List.Mem.head _)))) (C5d hS) (by simp) h A P z y Φ s v hA hs
theorem C4s{i:Int}(hS:t.S5):A8m (Str.ofString "clock") (.int i) t.fields=({t with clock:=i}:Tree).fields:=by rcases hS with e|e|e <;> (unfold Tree.fields;rw [show({t with clock:=i}:Tree).stg=t.stg from rfl,e];rfl)
theorem C6p{i:Int}{Q:Unit→St→Prop}(h1:σ.tr=some t)(hS:t.S5)(h:Q () {σ with tr:=some {t with clock:=i}}):
  W1 S d r env (R2 S) RU (fun v:Value×Value=>setAttr v.1 (Str.ofString "clock") v.2) (.ref .tree,.int i) σ Q X:=B9d h1 (List.Mem.tail _ (List.Mem.tail _ (List.Mem.head _))) (C4s hS) rfl Iff.rfl t.flen h
theorem B4d(hS:t.S5):t.fields.lookup (Str.ofString "least_width")=some (.int t.lw):=by rcases hS with e|e|e <;> (unfold Tree.fields;simp only [e];rfl)
theorem A5g{ex:Bool}{Q:AV→St→Prop}(h1:σ.tr=some t)(hS:t.S5)(h:Q (.int t.lw) σ):W1 S d r env (RV S) (RV S) (fun v=>getAttr v (Str.ofString "least_width") ex) (.ref .tree) σ Q X:=fun A P z y Φ s v hA hs=>
 A3e (A2o h1) (A1r h1) (hs.ok.tg _ (List.Mem.tail _ (List.Mem.tail _ (List.Mem.tail _ (List.Mem.head _))))) (B4d hS) (by simp) h A P z y Φ s v hA hs
theorem B2n(hS:t.S5):t.fields.lookup (Str.ofString "least_height")=some (.int t.lh):=by rcases hS with e|e|e <;> (unfold Tree.fields;simp only [e];rfl)
theorem A4o{ex:Bool}{Q:AV→St→Prop}(h1:σ.tr=some t)(hS:t.S5)(h:Q (.int t.lh) σ):W1 S d r env (RV S) (RV S) (fun v=>getAttr v (Str.ofString "least_height") ex) (.ref .tree) σ Q X:=fun A P z y Φ s v hA hs=>
 A3e (A2o h1) (A1r h1) (hs.ok.tg _ (List.Mem.tail _ (List.Mem.tail _ (List.Mem.tail _ (List.Mem.tail _ (List.Mem.head _)))))) (B2n hS) (by simp) h A P z y Φ s v hA hs
theorem C7k(hS:t.stg=7):t.fields.lookup (Str.ofString "root")=some (.int t.root):=by unfold Tree.fields;simp only [hS];rfl
theorem B1u{ex:Bool}{Q:AV→St→Prop}(h1:σ.tr=some t)(hS:t.stg=7)(h:Q (.int t.root) σ):W1 S d r env (RV S) (RV S) (fun v=>getAttr v (Str.ofString "root") ex) (.ref .tree) σ Q X:=fun A P z y Φ s v hA hs=>
 A3e (A2o h1) (A1r h1) (hs.ok.tg _ (List.Mem.tail _ (List.Mem.tail _ (List.Mem.tail _ (List.Mem.tail _ (List.Mem.tail _ (List.Mem.head _))))))) (C7k hS) (by simp) h A P z y Φ s v hA hs
theorem C7a{i:Int}(hS:t.stg=7):A8m (Str.ofString "root") (.int i) t.fields=({t with root:=i}:Tree).fields:=by unfold Tree.fields;rw [show({t with root:=i}:Tree).stg=t.stg from rfl,hS];rfl
theorem C9t{i:Int}{Q:Unit→St→Prop}(h1:σ.tr=some t)(hS:t.stg=7)(h:Q () {σ with tr:=some {t with root:=i}}):
  W1 S d r env (R2 S) RU (fun v:Value×Value=>setAttr v.1 (Str.ofString "root") v.2) (.ref .tree,.int i) σ Q X:=B9d h1 (List.Mem.tail _ (List.Mem.tail _ (List.Mem.tail _ (List.Mem.tail _ (List.Mem.tail _ (List.Mem.head _)))))) (C7a hS) rfl Iff.rfl t.flen h
theorem B9o(hS:t.stg=7):t.fields.lookup (Str.ofString "selected")=some (.int t.sel):=by unfold Tree.fields;simp only [hS];rfl
theorem A1c{ex:Bool}{Q:AV→St→Prop}(h1:σ.tr=some t)(hS:t.stg=7)(h:Q (.int t.sel) σ):W1 S d r env (RV S) (RV S) (fun v=>getAttr v (Str.ofString "selected") ex) (.ref .tree) σ Q X:=fun A P z y Φ s v hA hs=>
 A3e (A2o h1) (A1r h1) (hs.ok.tg _ (List.Mem.tail _ (List.Mem.tail _ (List.Mem.tail _ (List.Mem.tail _ (List.Mem.tail _ (List.Mem.tail _ (List.Mem.head _)))))))) (B9o hS) (by simp) h A P z y Φ s v hA hs
theorem B9k{i:Int}(hS:t.stg=7):A8m (Str.ofString "selected") (.int i) t.fields=({t with sel:=i}:Tree).fields:=by unfold Tree.fields;rw [show({t with sel:=i}:Tree).stg=t.stg from rfl,hS];rfl
theorem C0p{i:Int}{Q:Unit→St→Prop}(h1:σ.tr=some t)(hS:t.stg=7)(h:Q () {σ with tr:=some {t with sel:=i}}):
  W1 S d r env (R2 S) RU (fun v:Value×Value=>setAttr v.1 (Str.ofString "selected") v.2) (.ref .tree,.int i) σ Q X:=B9d h1 (List.Mem.tail _ (List.Mem.tail _ (List.Mem.tail _ (List.Mem.tail _ (List.Mem.tail _ (List.Mem.tail _ (List.Mem.head _))))))) (B9k hS) rfl Iff.rfl t.flen h
end
structure FnI where
 a:Addr
 qual:Str
 ps:List Str
 dfl:List AV
 nam:List Str
 cnm:List Str
 glb:List Str
 body:List Stmt
 scope:Scope
 cdv:Value
noncomputable def FnI.env(F:FnI)(L:Addr):Env:=newEnv F.scope L mainGlobals (cellsFrom (L+1) F.scope.names []) (F.qual++ ".<locals>.") (some F.a) F.cdv none builtinsNs
structure FnOK (S:SP) (F:FnI):Prop where
 at_: ∃oc od osl name params dV kV doc pm an ct,S.K.lookup F.a=some ⟨oc,od,.func (fnX name F.qual params F.body F.scope [] dV kV doc pm an F.cdv ct),osl⟩∧
  ∀(s:Shared) (vals:List Value),(∀b o,S.base.get? b=some o→s.heap.get? b=some o)→vals.length+F.dfl.length=F.ps.length→
   ∃dvals,(∀P z Φ,A0c S P z Φ F.dfl dvals)∧BindsTo s (fnX name F.qual params F.body F.scope [] dV kV doc pm an F.cdv ct) ⟨vals,[]⟩ (F.ps.zip (vals++dvals))
 code:codeIn S.K F.cdv F.qual=true
 keep:keepIn S.K (.ref F.a)=true
 co:F.scope.isCoroutine=false
 ge:F.scope.isGenerator=false
 eok: ∀L,EOK (F.env L) F.nam F.cnm F.glb
 nd:F.ps.Nodup
 cells: ∀(i:Nat) (x:Str) (L:Nat),F.cnm[i]? =some x→(cellsFrom (L+1) F.scope.names []).lookup x=some (L+1+i)
 par: ∀x∈F.ps,F.scope.names.lookup x=some .local∨(F.scope.names.lookup x=some .cell∧x∈F.cnm)
noncomputable def FnI.st(F:FnI)(σ:St)(L:Nat)(as:List AV):St:=
 {tr:=σ.tr,dk:=σ.dk,nw:=σ.nw,rl:=σ.rl,tb:=σ.tb,fid:=L,nam:=F.nam,loc:=F.nam.map fun x=>(F.ps.zip as).lookup x,tmp:= [],cfid:=L,cnm:=F.cnm,cel:=F.cnm.map fun x=>(F.ps.zip as).lookup x,glb:=F.glb}
noncomputable def Pc(F:FnI)(P:Key→Prop)(L:Nat):Key→Prop:=fun k=>P k∨k= .loc L∨ ∃i,k= .cel L i∧i<F.cnm.length
noncomputable def Φc(Φ:Key→Addr)(L:Nat):Key→Addr
 | .loc f=>if f=L then L else Φ (.loc f)
 | .cel f i=>if f=L then L+1+i else Φ (.cel f i)
 |k=>Φ k
noncomputable def B0e:Key→Bool
 | .loc _=>true
 | .cel _ _=>true
 | .tmp _ _=>true
 |_=>false
open Classical in
noncomputable def yc(S:SP)(env:Env)(σ:St)(Φ:Key→Addr)(y:Gy)(h:Heap):Gy:=fun b=>
 if ∃k o,B0e k=true∧σ.obj S k=some o∧Φ k=b then(h.get? b).map (fun o=>(o,decide (b=env.locals)))else y b
theorem k10{k:Key}{G:Prop}(h:B0e k=true)(e:B0e k=false):G:=k4 (e.symm.trans h)
theorem k11{k:Key}{G:Prop}(h:B0e k=false)(e:B0e k=true):G:=k4 (h.symm.trans e)
theorem B1t{S:SP}{P z Φ}{x:Str}{ps:List Str}{as:List AV}{vs:List Value}(h:A0c S P z Φ as vs):
  (∀a,(ps.zip as).lookup x=some a→ ∃v,(ps.zip vs).lookup x=some v∧A1i S P z Φ a v)∧((ps.zip as).lookup x=none→(ps.zip vs).lookup x=none):=by
 induction ps generalizing as vs with
 |nil=>exact⟨fun _ h=>k1 h,fun _=>rfl⟩
 |cons p ps ih=>
  cases as with
  |nil=>obtain rfl:=A4z h;exact⟨fun _ h=>k1 h,fun _=>rfl⟩
  |cons a as=>
  refine A1x h.uncons fun v r y9a hv hr=>?_
  subst y9a
  have ih:=ih hr
  simp only [List.zip_cons_cons,List.lookup_cons]
  cases q:x == p with
  |true=>exact⟨fun b hb=>by cases hb;exact⟨v,rfl,hv⟩,fun h=>by exact k2 h⟩
  |false=>exact ih
theorem A2t{x:Str}: ∀{ps:List Str} {vs:List Value},x∉ps→(ps.zip vs).lookup x=none
 | [],_,_=>rfl
 |p::ps,[],_=>rfl
 |p::ps,v::vs,h=>by
  have:(x == p)=false:=by simpa using fun e=>h (by simp only [e];exact .head _)
  simp only [List.zip_cons_cons,List.lookup_cons,this]
  exact A2t fun e=>h (.tail _ e)
theorem C0g{kd:Str→Option NameKind}{x:Str}(hk:kd x=some .local){ps:List Str}(nd:ps.Nodup)(vs:List Value)(m:Str→Option Value):bindL kd (ps.zip vs) m x=((ps.zip vs).lookup x).or (m x):=by
 induction ps generalizing vs m with
 |nil=>rfl
 |cons p ps ih=>
  cases vs with
  |nil=>rfl
  |cons v vs=>
  dsimp only [List.zip_cons_cons,bindL,List.lookup_cons]
  simp only [ih (List.nodup_cons.mp nd).2]
  by_cases q:x=p
  ·subst q
   rw [if_pos hk,A2t (List.nodup_cons.mp nd).1]
   simp
  ·have:(x == p)=false:=by simpa using q
   rw [this]
   dsimp only
   congr 1
   split
   ·simp [q]
   ·rfl
theorem C0h{kd:Str→Option NameKind}{x:Str}(hk:kd x≠some .local): ∀{ps:List Str} (_:ps.Nodup) (vs:List Value) (m:Str→Option Value),bindC kd (ps.zip vs) m x=((ps.zip vs).lookup x).or (m x)
 | [],_,_,_=>rfl
 |p::ps,_,[],_=>rfl
 |p::ps,nd,v::vs,m=>by
  dsimp only [List.zip_cons_cons,bindC,List.lookup_cons]
  simp only [C0h hk (List.nodup_cons.mp nd).2]
  by_cases q:x=p
  ·subst q
   rw [if_neg hk,A2t (List.nodup_cons.mp nd).1]
   simp
  ·have:(x == p)=false:=by simpa using q
   rw [this]
   dsimp only
   congr 1
   split
   ·rfl
   ·simp [q]
section
variable {S:SP} {d:Nat} {r:Bool} {env:Env} {σ:St} {X:St→Prop} {F:FnI} {P:Key→Prop} {z:Gh} {y:Gy} {Φ:Key→Addr} {s s₁:Shared} {as:List AV} {vals:List Value}
theorem A3c{f:Nat}{o:CO}:σ.obj S (.loc f)=some o↔f=σ.fid∧o= .locs σ.nam σ.loc:=by
 simp only [St.obj];split <;> simp_all [eq_comm]
theorem A1t{f k:Nat}{o:CO}:σ.obj S (.tmp f k)=some o↔f=σ.fid∧σ.tmp[k]? =some (some o):=by
 simp only [St.obj];split <;> simp_all [Option.join_eq_some_iff]
theorem A2e{f i:Nat}{o:CO}:σ.obj S (.cel f i)=some o↔f=σ.cfid∧ ∃c,σ.cel[i]? =some c∧o= .cell c:=by
 simp only [St.obj]
 by_cases h:f=σ.cfid
 ·rw [if_pos h,Option.map_eq_some_iff]
  exact⟨fun⟨c,a,b⟩=>⟨h,c,a,b.symm⟩,fun⟨_,c,a,b⟩=>⟨c,a,b.symm⟩⟩
 ·rw [if_neg h];exact⟨fun e=>(by exact k1 e),fun e=>absurd e.1 h⟩
theorem Sim.dead(hs:Sim S env σ P z y Φ s){L:Nat}(hL:s.heap.get? L=none): ¬P (.loc L)∧(∀k,¬P (.tmp L k))∧ ∀k,¬P (.cel L k):=by
 refine A4x (fun h=>?_) (fun k h=>?_) (fun k h=>?_)
 ·obtain ⟨o,e⟩:=hs.top L (.inl h);rw [hL]at e;exact k1 e
 ·obtain ⟨o,e⟩:=hs.top L (.inr (.inl ⟨k,h⟩));rw [hL]at e;exact k1 e
 ·obtain ⟨o,e⟩:=hs.top L (.inr (.inr (.inl ⟨k,h⟩)));rw [hL]at e;exact k1 e
theorem D3a(hs:Sim S env σ P z y Φ s){L:Nat}(hL:s.heap.get? L=none):Ext0 P z Φ (Pc F P L) z (Φc Φ L):=by
 refine A1a (hs.dead hL) fun d1 d2 d3=>⟨fun _ h=> .inl h,fun _ _ e=>e,fun k h=>?_⟩
 cases k with
 |loc f=>simp only [Φc];split <;> first|rfl| (rename_i e;subst e;exact absurd h d1)
 |cel f i=>simp only [Φc];split <;> first|rfl| (rename_i e;subst e;exact absurd h (d3 i))
 |_=>rfl
theorem C9j{h:Heap}{b:Addr}(e:yc S env σ Φ y h b=none)(hn: ∀k o,B0e k=true→σ.obj S k=some o→Φ k=b→ ∃oo,h.get? b=some oo):y b=none∧ ∀k o,B0e k=true→σ.obj S k=some o→Φ k≠b:=by
 unfold yc at e
 split at e
 ·rename_i q
  refine A1x q fun k o q1 q2 q3=>?_
  try clear q
  refine A0i (hn k o q1 q2 q3) fun oo e'=>?_
  rw [e']at e;exact k2 e
 ·rename_i q
  exact⟨e,fun k o q1 q2 q3=>q ⟨k,o,q1,q2,q3⟩⟩
theorem C6k{h:Heap}{b:Addr}{o:Obj×Bool}(e:yc S env σ Φ y h b=some o):(h.get? b=some o.1∧ ∃k o,B0e k=true∧σ.obj S k=some o∧Φ k=b)∨(y b=some o∧ ∀k o,B0e k=true→σ.obj S k=some o→Φ k≠b):=by
 unfold yc at e
 split at e
 ·rename_i q
  refine A0e (Option.map_eq_some_iff.mp e) fun oo e1 e2=>?_
  subst e2
  exact .inl ⟨e1,q⟩
 ·rename_i q
  exact .inr ⟨e,fun k o q1 q2 q3=>q ⟨k,o,q1,q2,q3⟩⟩
theorem C1p{h:Heap}{k:Key}{o:CO}{oo:Obj}(q1:B0e k=true)(q2:σ.obj S k=some o)(q3:h.get? (Φ k)=some oo):yc S env σ Φ y h (Φ k)=some (oo,decide (Φ k=env.locals)):=by
 unfold yc
 rw [if_pos ⟨k,o,q1,q2,rfl⟩,q3];rfl
theorem B8s{h:Heap}{b:Addr}{o:Obj×Bool}(c:Core S (σ.obj S) P z y Φ s)(e:y b=some o):yc S env σ Φ y h b=some o:=by
 unfold yc
 rw [if_neg]
 ·exact e
 ·rintro ⟨k,o',q1,q2,q3⟩
  have:=c.yf k o' q2
  rw [q3,e]at this;exact k2 this
theorem C0w{L:Nat}{k:Key}(hk:B0e k=false):(F.st σ L as).obj S k=σ.obj S k:=by
 cases k <;> first|rfl|exact k11 hk rfl
theorem D3b(hs:Sim S env σ P z y Φ s)(hF:FnOK S F)(hv:A0c S P z Φ as vals){L:Nat}(hL:L=s.heap.objs.size)
  (x:InCallC s L (bindL (F.env L).kindOf (F.ps.zip vals) fun _=>none) (F.env L).cells (bindC (F.env L).kindOf (F.ps.zip vals) fun _=>none) s₁):
  Sim S (F.env L) (F.st σ L as) (Pc F P L) z (yc S env σ Φ y s.heap) (Φc Φ L) s₁:=by
 have nL: ∀i,s.heap.get? (L+i)=none:=fun i=>by
  cases e:s.heap.get? (L+i)with
  |none=>rfl
  |some o=>have q:(L+i:Nat)<s.heap.objs.size:=Heap.lt_size e;subst hL;lia
 have n0:=nL 0
 simp only [Nat.add_zero]at n0
 have xt:Ext0 P z Φ (Pc F P L) z (Φc Φ L):=D3a hs n0
 refine A1a (hs.dead n0) fun d1 d2 d3=>?_
 have kp:=x.toInCall.keep
 refine B5w x.toInCall.same fun hh tk same=>?_
 have E:=hF.eok L
 have live: ∀k o,(F.st σ L as).obj S k=some o→(B0e k=false∧σ.obj S k=some o)∨(k= .loc L∧o= .locs F.nam (F.nam.map fun x=>(F.ps.zip as).lookup x))∨ ∃i x,k= .cel L i∧F.cnm[i]? =some x∧o= .cell ((F.ps.zip as).lookup x):=by
  intro k o e
  cases hk:B0e k with
  |false=>rw [C0w hk]at e;exact .inl ⟨rfl,e⟩
  |true=>
   cases k with
   |loc f=>obtain ⟨q,e⟩:=A3c.mp e;exact .inr (.inl ⟨congrArg Key.loc q,e⟩)
   |tmp f i=>obtain ⟨q,e⟩:=A1t.mp e;exact absurd e (by trivial)
   |cel f i=>
    refine A0f (A2e.mp e) fun q y9a=>A0e y9a fun c e1 e=>A0e (Option.map_eq_some_iff.mp ((List.getElem?_map ..).symm.trans e1)) fun x' e3 e4=>?_
    exact .inr (.inr ⟨i,x',congrArg (Key.cel · i) q,e3,by simp only [e,←e4]⟩)
   |_=>exact k4 hk
 have frLive: ∀k o,B0e k=true→σ.obj S k=some o→ ∃oo,s.heap.get? (Φ k)=some oo:=fun k o _ e=>(hs.core.rep k o e).live
 have addr: ∀k,B0e k=false→Φc Φ L k=Φ k:=by intro k hk;cases k <;> first|rfl|exact k11 hk rfl
 have celAt: ∀i x',F.cnm[i]? =some x'→(F.env L).cells.lookup x'=some (L+1+i):=fun i x' e=>hF.cells i x' L e
 have zn: ∀i,z (L+i)=none:=fun i=>by
  cases e:z (L+i)with
  |none=>rfl
  |some o=>have:=hs.core.zin _ _ e;rw [nL]at this;exact k1 this
 have yn: ∀i,yc S env σ Φ y s.heap (L+i)=none:=fun i=>by
  cases e:yc S env σ Φ y s.heap (L+i)with
  |none=>rfl
  |some o=>
   rcases C6k e with⟨e1,_⟩| ⟨e1,_⟩
   ·rw [nL]at e1;exact k1 e1
   ·obtain ⟨oo,e2⟩:=(hs.core.yin _ _ e1).live;rw [nL]at e2;exact k1 e2
 have core:Core S ((F.st σ L as).obj S) (Pc F P L) z (yc S env σ Φ y s.heap) (Φc Φ L) s₁:=by
  refine⟨by refine(congrArg _ (same)).trans ?_;exact hs.core.gens,by refine(congrArg _ (same)).trans ?_;exact hs.core.os,hs.core.base,fun a o e=>kp _ _ (hs.core.zin a o e),fun a o e=>?_,fun a o e=>?_,fun k o e=>?_,fun k o e=>?_,fun k o e=>?_,fun k o e=>?_,fun k k' o o' e e' h=>?_⟩
  ·rcases C6k e with⟨e1,_⟩| ⟨e1,_⟩
   ·exact .inl (kp _ _ e1)
   ·exact (hs.core.yin _ _ e1).keep (kp a)
  ·rcases C6k e with⟨_,k,o',_,q2,q3⟩| ⟨e1,_⟩
   ·refine (congrArg _ (q3).symm).trans ?_;exact hs.core.zf k o' q2
   ·exact hs.core.zy _ _ e1
  ·rcases live k o e with⟨_,e⟩| ⟨rfl,_⟩| ⟨i,x',rfl,h1,_⟩
   ·exact .inl (hs.core.al k o e)
   ·exact .inr (.inl rfl)
   ·exact .inr (.inr ⟨i,rfl,(List.getElem?_eq_some_iff.mp h1).1⟩)
  ·rcases live k o e with⟨hk,e⟩| ⟨rfl,rfl⟩| ⟨i,x',rfl,h1,rfl⟩
   ·simp only [addr k hk];exact(hs.core.rep k o e).mono xt (kp _)
   ·simp [Φc,if_true]
    refine A1f _ x.toInCall.ns (fun i x' av h1 h2=>?_)
    rw [List.getElem?_map,h1]at h2
    simp only [Option.map_some,Option.some.injEq]at h2
    refine A0e ((B1t (x:=x') (ps:=F.ps) hv).1 av h2) fun v q1 q2=>A1f v ?_ (A1i.mono xt _ _ q2)
    rw [C0g (E.kloc x' (List.mem_of_getElem? h1)).1 hF.nd,q1];rfl
   ·simp [Φc,if_true]
    refine A1f _ (x.cell x' _ (celAt i x' h1)) ?_
    have hkc:=(E.kcel x' (List.mem_of_getElem? h1)).1
    rw [C0h (by rw [hkc];decide) hF.nd]
    cases q:(F.ps.zip as).lookup x' with
    |none=>
     have:=(B1t (x:=x') (ps:=F.ps) hv).2 q
     simp only [this];rfl
    |some av=>
     refine A0e ((B1t (x:=x') (ps:=F.ps) hv).1 av q) fun v q1 q2=>?_
     simp only [q1]
     exact A1f v rfl (A1i.mono xt _ _ q2)
  ·rcases live k o e with⟨hk,e⟩| ⟨rfl,rfl⟩| ⟨i,x',rfl,h1,rfl⟩
   ·refine (congrArg _ (addr k hk)).trans ?_;exact hs.core.zf k o e
   ·simp [Φc,if_true];exact zn 0
   ·simp [Φc,if_true];rw [Nat.add_assoc];exact zn _
  ·rcases live k o e with⟨hk,e⟩| ⟨rfl,rfl⟩| ⟨i,x',rfl,h1,rfl⟩
   ·refine (congrArg _ (addr k hk)).trans ?_
    cases q:yc S env σ Φ y s.heap (Φ k)with
    |none=>rfl
    |some o2=>
     rcases C6k q with⟨_,k',o',q1,q2,q3⟩| ⟨e1,_⟩
     ·have:=hs.core.inj k' k _ _ q2 e q3
      rw [this,hk]at q1;exact k4 q1
     ·rw [hs.core.yf k o e]at e1;exact k1 e1
   ·simp [Φc,if_true];exact yn 0
   ·simp [Φc,if_true];rw [Nat.add_assoc];exact yn _
  ·have off: ∀k o i,B0e k=false→σ.obj S k=some o→Φ k≠L+i:=fun k o i _ e q=>by
    obtain ⟨oo,e'⟩:=(hs.core.rep k o e).live;rw [q,nL]at e';exact k1 e'
   rcases live k o e with⟨hk,e1⟩| ⟨rfl,rfl⟩| ⟨i,x',rfl,h1,rfl⟩ <;> rcases live k' o' e' with⟨hk',e1'⟩| ⟨rfl,rfl⟩| ⟨i',x'',rfl,h1',rfl⟩
   ·rw [addr k hk,addr k' hk']at h;exact hs.core.inj k k' _ _ e1 e1' h
   ·rw [addr k hk]at h;simp [Φc,if_true]at h;exact absurd h (off k _ 0 hk e1)
   ·rw [addr k hk]at h;simp [Φc,if_true]at h;exact absurd (h.trans (Nat.add_assoc L 1 i')) (off k _ _ hk e1)
   ·rw [addr k' hk']at h;simp [Φc,if_true]at h;exact absurd h.symm (off k' _ 0 hk' e1')
   ·rfl
   ·simp [Φc,if_true]at h;have h':(L:Nat)=L+1+i':=h;lia
   ·rw [addr k' hk']at h;simp [Φc,if_true]at h;exact absurd (h.symm.trans (Nat.add_assoc L 1 i)) (off k' _ _ hk' e1')
   ·simp [Φc,if_true]at h;have h':(L:Nat)+1+i=L:=h;lia
   ·simp only [Φc,if_true]at h
    have h':(L:Nat)+1+i=L+1+i':=h
    have:i=i':=by lia
    exact congrArg _ (this)
 have pinG:PInv (F.st σ L as) (Pc F P L):=by
  have gl: ∀k,Pc F P L k→k≠ .loc L→(∀i,k≠ .cel L i)→P k:=fun k h h1 h2=>by
   rcases h with h|h| ⟨i,h,_⟩
   ·exact h
   ·exact absurd h h1
   ·exact absurd h (h2 i)
  refine⟨fun k h=>?_,fun n h=>?_,fun n v h=>?_,fun h=>?_,fun h=>?_,fun h=>?_⟩
  ·exact absurd (gl _ h (k9 rfl) (by simp)) (d2 k)
  ·exact hs.pin.win n (h.imp (fun h=>gl _ h (k9 rfl) (by simp)) fun h=>gl _ h (k9 rfl) (by simp))
  ·exact hs.pin.kid n v (gl _ h (k9 rfl) (by simp))
  ·exact hs.pin.tree (h.imp (fun h=>gl _ h (k9 rfl) (by simp)) fun h=>gl _ h (k9 rfl) (by simp))
  ·exact hs.pin.wdic (gl _ h (k9 rfl) (by simp))
  ·exact hs.pin.deck (gl _ h (k9 rfl) (by simp))
 refine⟨core,hs.ok,E,pinG,rfl,by simp [Φc,FnI.st,FnI.env,newEnv],fun f h=>?_,fun i x' e=>?_,by simp [FnI.st],by simp [FnI.st]⟩
 ·have old:Pf P f→ ∃o,s₁.heap.get? f=some o:=fun h=>let ⟨o,e⟩:=hs.top f h;⟨o,kp _ _ e⟩
  have new: ∃o,s₁.heap.get? L=some o:=let ⟨o,_,_,e,_⟩:=x.toInCall.ns;⟨o,e⟩
  rcases h with h| ⟨k,h⟩| ⟨k,h⟩|h|h <;> rcases h with h|h| ⟨i,h,_⟩
  ·exact old (.inl h)
  ·cases h;exact new
  ·contradiction
  ·exact old (.inr (.inl ⟨k,h⟩))
  ·contradiction
  ·contradiction
  ·exact old (.inr (.inr (.inl ⟨k,h⟩)))
  ·contradiction
  ·cases h;exact new
  ·exact old (.inr (.inr (.inr (.inl h))))
  ·contradiction
  ·contradiction
  ·exact old (.inr (.inr (.inr (.inr h))))
  ·contradiction
  ·contradiction
 ·simp [Φc,FnI.st,if_true];exact celAt i x' e
theorem back(hs:Sim S env σ P z y Φ s){L:Nat}(hL:s.heap.get? L=none){P₂ z₂ Φ₂ σ₂ s₂}(x₂:Ext (F.env L).locals (yc S env σ Φ y s.heap) (Pc F P L) z (Φc Φ L) P₂ z₂ Φ₂)(hs₂:Sim S (F.env L) σ₂ P₂ z₂ (yc S env σ Φ y s.heap) Φ₂ s₂):
  Ext env.locals y P z Φ P₂ z₂ Φ₂∧Sim S env (σ.back σ₂) P₂ z₂ y Φ₂ s₂:=by
 have xt:Ext0 P z Φ (Pc F P L) z (Φc Φ L):=D3a hs hL
 refine A1a (hs.dead hL) fun d1 d2 d3=>?_
 have x:Ext0 P z Φ P₂ z₂ Φ₂:=xt.trans x₂.toExt0
 have Ploc:P (.loc env.locals):=hs.fid▸hs.core.al _ _ A1l
 have frLive: ∀k o,B0e k=true→σ.obj S k=some o→ ∃oo,s.heap.get? (Φ k)=some oo:=fun k o _ e=>(hs.core.rep k o e).live
 have old: ∀f,P (.loc f)→Pc F P L (.loc f):=fun f h=> .inl h
 have frk: ∀f k,f≠L→P₂ (.tmp f k)→P (.tmp f k)∨ ¬P (.loc f):=fun f k hf h=>by
  rcases x₂.fr f k hf h with h|h
  ·rcases h with h|h| ⟨i,h,_⟩
   ·exact .inl h
   ·contradiction
   ·contradiction
  ·exact .inr fun q=>h (.inl q)
 have neL:env.locals≠L:=fun e=>d1 (e▸Ploc)
 have yL:y L=none:=by
  cases e:y L with
  |none=>rfl
  |some o=>obtain ⟨oo,e'⟩:=(hs.core.yin _ _ e).live;rw [hL]at e';exact k1 e'
 have xe:Ext env.locals y P z Φ P₂ z₂ Φ₂:=⟨x,fun f k hf h=>(by
  by_cases q:f=L
  ·subst q;exact .inr d1
  ·exact frk f k q h),fun f h=>by
  by_cases q:f=L
  ·subst q;exact .inr yL
  rcases x₂.nf f h with h|h
  ·rcases h with h| ⟨k,h⟩| ⟨k,h⟩|h|h <;> rcases h with h|h| ⟨i,h,_⟩
   ·exact .inl (.inl h)
   ·cases h;exact absurd rfl q
   ·contradiction
   ·exact .inl (.inr (.inl ⟨k,h⟩))
   ·contradiction
   ·contradiction
   ·exact .inl (.inr (.inr (.inl ⟨k,h⟩)))
   ·contradiction
   ·cases h;exact absurd rfl q
   ·exact .inl (.inr (.inr (.inr (.inl h))))
   ·contradiction
   ·contradiction
   ·exact .inl (.inr (.inr (.inr (.inr h))))
   ·contradiction
   ·contradiction
  ·right
   cases e:y f with
   |none=>rfl
   |some o=>rw [B8s hs.core e]at h;exact k2 h⟩
 have go: ∀k,B0e k=false→(σ.back σ₂).obj S k=σ₂.obj S k:=fun k hk=>by cases k <;> first|rfl|exact k11 hk rfl
 have fo: ∀k,B0e k=true→(σ.back σ₂).obj S k=σ.obj S k:=fun k hk=>by cases k <;> first|rfl|exact k4 hk
 have yf: ∀k o,B0e k=true→σ.obj S k=some o→ ∃oo fl,s.heap.get? (Φ k)=some oo∧yc S env σ Φ y s.heap (Φ k)=some (oo,fl)∧(fl=true→Φ k=env.locals):=fun k o h1 h2=>by
  refine A0i (frLive k o h1 h2) fun oo e=>?_
  exact B2o oo _ e (C1p h1 h2 e) (fun q=>of_decide_eq_true q)
 have repF: ∀k o,B0e k=true→σ.obj S k=some o→C3n S P₂ z₂ Φ₂ s₂.heap (Φ₂ k) o:=fun k o h1 h2=>by
  refine A1x (yf k o h1 h2) fun oo fl e1 e2 e3=>?_
  rw [x.f k (hs.core.al k o h2)]
  have R:=hs.core.rep k o h2
  rcases hs₂.core.yin _ _ e2 with q| ⟨q1,sl,q2⟩
  ·exact R.mono x fun oo' e'=>by rw [e1]at e';cases e';exact q
  ·-- the frame's own object: up to its slots
   have ek:=e3 q1
   have:k= .loc σ.fid:=hs.core.inj _ _ _ _ h2 A1l (ek.trans hs.loc.symm)
   subst this
   have eo:o= .locs σ.nam σ.loc:=Option.some.inj (h2.symm.trans A1l)
   subst eo
   refine A0e R fun mm y9a g3=>?_
   try clear R
   obtain ⟨o3,es,ep,g1,g2⟩:=y9a
   rw [e1]at g1;cases g1
   exact A1f mm ⟨_,es,ep,q2,g2⟩ (fun i x' av h1 h2=>let ⟨v,a,b⟩:=g3 i x' av h1 h2;⟨v,a,A1i.mono x _ _ b⟩)
 have core:Core S ((σ.back σ₂).obj S) P₂ z₂ y Φ₂ s₂:=by
  refine⟨hs₂.core.gens,hs₂.core.os,hs₂.core.base,hs₂.core.zin,fun a o e=>hs₂.core.yin a o (B8s hs.core e),fun a o e=>hs₂.core.zy a o (B8s hs.core e),fun k o e=>?_,fun k o e=>?_,fun k o e=>?_,fun k o e=>?_,fun k k' o o' e e' h=>?_⟩
  ·cases hk:B0e k with
   |false=>rw [go k hk]at e;exact hs₂.core.al k o e
   |true=>rw [fo k hk]at e;exact x.p k (hs.core.al k o e)
  ·cases hk:B0e k with
   |false=>rw [go k hk]at e;exact hs₂.core.rep k o e
   |true=>rw [fo k hk]at e;exact repF k o hk e
  ·cases hk:B0e k with
   |false=>rw [go k hk]at e;exact hs₂.core.zf k o e
   |true=>
    rw [fo k hk]at e
    refine A1x (yf k o hk e) fun oo fl e1 e2 e3=>(congrArg _ (x.f k (hs.core.al k o e))).trans ?_;exact hs₂.core.zy _ _ e2
  ·cases hk:B0e k with
   |false=>
    rw [go k hk]at e
    have q:=hs₂.core.yf k o e
    cases q':y (Φ₂ k)with
    |none=>rfl
    |some o2=>rw [B8s hs.core q']at q;exact k2 q
   |true=>rw [fo k hk]at e;refine(congrArg _ (x.f k (hs.core.al k o e))).trans ?_;exact hs.core.yf k o e
  ·cases hk:B0e k <;> cases hk':B0e k'
   ·rw [go k hk]at e;rw [go k' hk']at e';exact hs₂.core.inj k k' o o' e e' h
   ·rw [go k hk]at e;rw [fo k' hk']at e'
    refine A1x (yf k' o' hk' e') fun oo fl e1 e2 e3=>?_
    rw [x.f k' (hs.core.al k' o' e')]at h
    have:=hs₂.core.yf k o e
    rw [h,e2]at this;exact k2 this
   ·rw [fo k hk]at e;rw [go k' hk']at e'
    refine A1x (yf k o hk e) fun oo fl e1 e2 e3=>?_
    rw [x.f k (hs.core.al k o e)]at h
    have:=hs₂.core.yf k' o' e'
    rw [←h,e2]at this;exact k2 this
   ·rw [fo k hk]at e;rw [fo k' hk']at e'
    rw [x.f k (hs.core.al k o e),x.f k' (hs.core.al k' o' e')]at h
    exact hs.core.inj k k' o o' e e' h
 refine⟨xe,core,hs.ok,hs.eok,⟨fun k h=>?_,hs₂.pin.win,hs₂.pin.kid,hs₂.pin.tree,hs₂.pin.wdic,hs₂.pin.deck⟩,hs.fid,?_,hs₂.top,fun i x' e=>?_,hs.ll,hs.lc⟩
 ·have h:P₂ (.tmp σ.fid k):=h
  rw [hs.fid]at h
  rcases frk _ k neL h with h|h
  ·exact hs.pin.tmp k (hs.fid▸h)
  ·exact absurd Ploc h
 ·show Φ₂ (.loc σ.fid)=env.locals
  refine(x.f _ (hs.core.al _ _ A1l)).trans ?_;exact hs.loc
 ·show env.cells.lookup x'=some (Φ₂ (.cel σ.cfid i))
  have hi:i<σ.cel.length:=by simp only [hs.lc];exact(List.getElem?_eq_some_iff.mp e).1
  have:P (.cel σ.cfid i):=hs.core.al _ _ (A2e.mpr ⟨rfl,_,List.getElem?_eq_getElem hi,rfl⟩)
  rw [x.f _ this];exact hs.cel i x' e
noncomputable def A4r(f:AF)(σ:St)(K:AV→St→Prop):Prop:=
 match f with
 | .next=>K .none σ
 | .ret (.ref (.tmp g k))=>g=σ.fid∧ ∃l,σ.tmp[k]? =some (some (.list l))∧K (.lst l) σ
 | .ret a=>K a σ
theorem A1z{σ:St}{K:AV→St→Prop}(h:K .none σ):A4r .next σ K:=h
theorem C8h{σ:St}{k:Nat}{l:List AV}{K:AV→St→Prop}(e:σ.tmp[k]? =some (some (.list l)))(h:K (.lst l) σ):A4r (.ret (.ref (.tmp σ.fid k))) σ K:=⟨rfl,l,e,h⟩
theorem A6c{σ:St}{i:Int}{K:AV→St→Prop}(h:K (.int i) σ):A4r (.ret (.int i)) σ K:=h
theorem B0v{σ:St}{K:AV→St→Prop}(h:K .none σ):A4r (.ret .none) σ K:=h
theorem B3c{σ:St}{x:Str}{K:AV→St→Prop}(h:K (.str x) σ):A4r (.ret (.str x)) σ K:=h
theorem A6b{σ:St}{l:List AV}{K:AV→St→Prop}(h:K (.tup l) σ):A4r (.ret (.tup l)) σ K:=h
theorem B3d{σ:St}{l:List AV}{K:AV→St→Prop}(h:K (.lst l) σ):A4r (.ret (.lst l)) σ K:=h
theorem B7o{σ:St}{n:Int}{K:AV→St→Prop}(h:K (.ref (.win n)) σ):A4r (.ret (.ref (.win n))) σ K:=h
theorem B6f{σ:St}{k:Nat}{c:Option CO}{j:Key}(h:j≠ .tmp σ.fid k):({σ with tmp:=σ.tmp.set k c}:St).obj S j=σ.obj S j:=by
 cases j with
 |tmp f i=>
  simp only [St.obj]
  by_cases hf:f=σ.fid
  ·rw [if_pos hf,if_pos hf]
   have:k≠i:=fun e=>h (by rw [hf,e])
   exact congrArg _ (List.getElem?_set_ne this)
  ·rw [if_neg hf,if_neg hf]
 |_=>rfl
theorem Sim.freeze{k:Nat}{l:List AV}(hs:Sim S env σ P z y Φ s)(e:σ.tmp[k]? =some (some (.list l))):
  ∃z',Ext env.locals y P z Φ P z' Φ∧Sim S env {σ with tmp:=σ.tmp.set k none} P z' y Φ s∧A1i S P z' Φ (.lst l) (.ref (Φ (.tmp σ.fid k))):=by
 have ho:σ.obj S (.tmp σ.fid k)=some (.list l):=A1t.mpr ⟨rfl,e⟩
 refine A3w (hs.core.rep _ _ ho) fun its n g1 g2=>?_
 have hk:k<σ.tmp.length:=(List.getElem?_eq_some_iff.mp e).1
 obtain ⟨c,x⟩:=hs.core.freeze (ob':=({σ with tmp:=σ.tmp.set k none}:St).obj S) ho g1 fun j o q=>by
  by_cases h:j= .tmp σ.fid k
  ·subst h
   have:=(A1t.mp q).2
   rw [show({σ with tmp:=σ.tmp.set k none}:St).tmp=σ.tmp.set k none from rfl,List.getElem?_set_self hk]at this
   cases this
  ·rw [B6f h]at q;exact⟨q,h⟩
 refine A8n _ ⟨x,fun _ _ _ h=> .inl h,fun _ h=> .inl h⟩ ⟨c,hs.ok,hs.eok,⟨fun j h=>by simp only [List.length_set];exact hs.pin.tmp j h,hs.pin.win,hs.pin.kid,hs.pin.tree,hs.pin.wdic,hs.pin.deck⟩,hs.fid,hs.loc,hs.top,hs.cel,hs.ll,hs.lc⟩ ?_
 exact C6l (if_pos rfl) (A0c.mono x _ _ g2)
noncomputable def D6h(S:SP)(env:Env)(P:Key→Prop)(z:Gh)(y:Gy)(Φ:Key→Addr)(Q:AV→St→Prop)(X:St→Prop)(rr:Result)(s':Shared):Prop:=
 match rr with
 | .ok (.ret v)=>Res S env (RV S) P z y Φ Q v s'
 | .ok _=>False
 | .error e=>A9p S env P z y Φ X e s'
noncomputable def WC(S:SP)(d:Nat)(r:Bool)(env:Env)(a:Addr)(as:List AV)(σ:St)(Q:AV→St→Prop)(X:St→Prop):Prop:=
 ∀A P z y Φ s vs,AOK d r env y A→Sim S env σ P z y Φ s→A0c S P z Φ as vs→codeAny (model S.prog S.w) A (.call (.ref a) ⟨vs,[]⟩) (D6h S env P z y Φ Q X) s
theorem WC.sb{Q:AV→St→Prop}{a:Addr}{σ':St}(e:σ=σ')(h:WC S d r env a as σ' Q X):WC S d r env a as σ Q X:=e▸h
theorem WC.w1{Q:AV→St→Prop}{a:Addr}(h:WC S d r env a as σ Q X):W1 S d r env (RL S) (RV S) (fun vs=>call (.ref a) vs) as σ Q X:=fun A P z y Φ s vs hA hs hv=>wpAny_call (h A P z y Φ s vs hA hs hv)
theorem WC.mono{Q Q':AV→St→Prop}{X':St→Prop}{a:Addr}(h:WC S d r env a as σ Q X)(hQ: ∀b σ',Q b σ'→Q' b σ')(hX: ∀σ',X σ'→X' σ'):WC S d r env a as σ Q' X':=fun A P z y Φ s vs hA hs hv=>
 codeAny_mono (h A P z y Φ s vs hA hs hv) fun rr s' hr=>by
  rcases rr with e| (v|_|_|_)
  ·exact A9p.el hr fun _ _ _ _ _ e1 x1 hs' he hx=>A9p.i e1 x1 hs' he (hX _ hx)
  all_goals first|exact(hr:False).elim|exact Res.el hr fun _ _ _ _ _ x hr hs' hq=>Res.i x hr hs' (hQ _ _ hq)
theorem WC.le{d':Nat}{Q:AV→St→Prop}{a:Addr}(h:WC S d r env a as σ Q X)(hd:d≤d'):WC S d' r env a as σ Q X:=fun A P z y Φ s vs hA hs hv=>h A P z y Φ s vs (hA.le hd) hs hv
noncomputable def D0t(f:Flow):Value:=match f with| .ret v=>v|_=> .none
theorem C9e{Q:AV→St→Prop}{f:Flow}{b:AF}{σ₂:St}{P₂:Key→Prop}{z₂:Gh}{Φ₂:Key→Addr}{s₂:Shared}{envc:Env}{yy:Gy}(hs₂:Sim S envc σ₂ P₂ z₂ yy Φ₂ s₂)(hr:RF S P₂ z₂ Φ₂ b f)(h:A4r b σ₂ Q):
  ∃v z₃ σ₃ av,D0t f=v∧Ext envc.locals yy P₂ z₂ Φ₂ P₂ z₃ Φ₂∧Sim S envc σ₃ P₂ z₃ yy Φ₂ s₂∧A1i S P₂ z₃ Φ₂ av v∧(∃σ₄,Q av σ₄∧ ∀σ:St,σ.back σ₄=σ.back σ₃):=by
 cases b with
 |next=>have e:f= .next:=hr;subst e;exact⟨_,z₂,σ₂,.none,rfl,Ext.refl,hs₂,B6u,σ₂,h,fun _=>rfl⟩
 |ret a=>
  obtain ⟨v,rfl,hv⟩:=(hr: ∃v,f= .ret v∧A1i S P₂ z₂ Φ₂ a v)
  have plain: ∀(_:Q a σ₂),∃v',∃z₃ σ₃ av,v=v'∧Ext envc.locals yy P₂ z₂ Φ₂ P₂ z₃ Φ₂∧Sim S envc σ₃ P₂ z₃ yy Φ₂ s₂∧A1i S P₂ z₃ Φ₂ av v'∧(∃σ₄,Q av σ₄∧ ∀σ:St,σ.back σ₄=σ.back σ₃):=
   fun h=>⟨v,z₂,σ₂,a,rfl,Ext.refl,hs₂,hv,σ₂,h,fun _=>rfl⟩
  cases a with
  |ref k=>
   cases k with
   |tmp g k=>
    refine A0f h fun y9a y9b=>?_
    try clear h
    refine A0e y9b fun l e hq=>?_
    obtain rfl:=y9a
    refine A2u (hs₂.freeze e) fun z' x hs₃ hv'=>A0f (A1s hv) fun _ y9a=>?_
    obtain rfl:=y9a
    exact C5p _ z' _ (.lst l) rfl x hs₃ hv' (A1f σ₂ hq (fun _=>rfl))
   |_=>exact plain h
  |_=>exact plain h
theorem A7a{Q:AV→St→Prop}(hF:FnOK S F)(hl:as.length+F.dfl.length=F.ps.length)(h: ∀L,W S d false (F.env L) (RF S) (execs F.body (F.env L)) (F.st σ L (as++F.dfl)) (fun f σ'=>A4r f σ' fun a σ''=>Q a (σ.back σ'')) (fun _=>False)):
  WC S (d+1) r env F.a as σ Q X:=fun A P z y Φ s vals hA hs hv=>by
 refine A7s hF.at_ fun oc od osl name params y9a=>A7s y9a fun dV kV doc pm an y9b=>A0e y9b fun ct ho hbind=>?_
 obtain ⟨dvals,hdv,hb⟩:=hbind s vals hs.keep (by rw [show vals.length=as.length from A0c.len hv];exact hl)
 have hv':A0c S P z Φ (as++F.dfl) (vals++dvals):=A0c.app hv (hdv P z Φ)
 have ho':=hs.kin _ _ ho
 refine codeAny_call_function (by have:=hA.dep;show A.depth<1000;exact Z2 this) ho' rfl hF.co hF.ge rfl (codeRec_of hs.kin hF.code) (hb _ _ _ _ ?_)
 refine wpAny_newFunctionEnv_cells (by have:=(hF.eok 0).kfun;exact this) (fun x hx=>?_) fun env' he s₁ x=>?_
 ·have hm:x.1∈F.ps:=(List.of_mem_zip hx).1
  rcases hF.par x.1 hm with h1| ⟨h1,h2⟩
  ·exact .inl h1
  ·refine A0i (List.getElem?_of_mem h2) fun i hi=>?_
   exact .inr ⟨h1,by refine(congrArg _ (hF.cells i x.1 _ hi)).trans ?_;rfl⟩
 subst he
 have nL:s.heap.get? s.heap.objs.size=none:=by
  cases e:s.heap.get? s.heap.objs.size with
  |none=>rfl
  |some o=>exact absurd (Heap.lt_size e) (Nat.lt_irrefl _)
 have hs₁:=D3b hs hF hv' (L:=s.heap.objs.size) rfl x
 refine⟨(hs.ok.lim.keeps hs.keep).keeps x.toInCall.keep,codeAny_func ?_⟩
 have hA':AOK d false (F.env s.heap.objs.size) (yc S env σ Φ y s.heap) (A.deeper (F.env s.heap.objs.size)):=
  ⟨hA.h,by have:=hA.dep;show A.depth+1+d≤900;exact Z3 this,by have:=hA.uni;show A.units+3+20*d≤9000;exact Z4 this,fun h=>by exact k4 h⟩
 refine(h s.heap.objs.size).run hA' hs₁ (fun f s₂ P₂ z₂ Φ₂ σ₂ b x₂ r₂ hs₂ h₂=>?_) fun e s' hx=>?_
 ·refine B5u (C9e hs₂ r₂ h₂) fun v z₃ σ₃ av e1 x₃ hs₃ hv₃ y9a=>A0e y9a fun σ₄ hq e2=>A0f (back hs nL (x₂.trans x₃) hs₃) fun xb hsb=>C5o P₂ z₃ Φ₂ _ av xb ?_ hsb ?_
  ·rw [←e1]at hv₃;cases f <;> exact hv₃
  ·rw [←e2];exact hq
 ·refine D0v hx fun _ _ _ _ _ _ _ _ _ hf=>?_
  try clear hx
  exact hf.elim
end
section
variable {S:SP} {d:Nat} {r:Bool} {env:Env} {σ:St} {X:St→Prop} {P:Key→Prop} {z:Gh} {y:Gy} {Φ:Key→Addr} {s:Shared}
noncomputable def B8p(y:Gy)(a:Addr)(o:Obj):Gy:=fun b=>if b=a then some (o,false)else y b
theorem Sim.hold(hs:Sim S env σ P z y Φ s){a:Addr}{o:Obj}(ho:s.heap.get? a=some o)(hoff:Off (σ.obj S) z y Φ a):Sim S env σ P z (B8p y a o) Φ s:=by
 refine A1a hoff fun h1 h2 h3=>?_
 try clear hoff
 refine⟨⟨hs.core.gens,hs.core.os,hs.core.base,hs.core.zin,fun b p e=>?_,fun b p e=>?_,hs.core.al,hs.core.rep,hs.core.zf,fun k p e=>?_,hs.core.inj⟩,hs.ok,hs.eok,hs.pin,hs.fid,hs.loc,hs.top,hs.cel,hs.ll,hs.lc⟩
 ·unfold B8p at e
  split at e
  ·rename_i q;subst q;cases e;exact .inl ho
  ·exact hs.core.yin b p e
 ·unfold B8p at e
  split at e
  ·rename_i q;subst q;exact h1
  ·exact hs.core.zy b p e
 ·unfold B8p
  refine(if_neg (h3 k p e)).trans ?_;exact hs.core.yf k p e
theorem Sim.unhold{a:Addr}{o:Obj}(hs:Sim S env σ P z (B8p y a o) Φ s)(hy:y a=none):Sim S env σ P z y Φ s∧s.heap.get? a=some o∧Off (σ.obj S) z y Φ a:=by
 have ya:B8p y a o a=some (o,false):=by unfold B8p;exact(if_pos rfl)
 have sub: ∀b p,y b=some p→B8p y a o b=some p:=fun b p e=>by
  unfold B8p
  by_cases q:b=a
  ·rw [q,hy]at e;exact k1 e
  ·refine (if_neg q).trans ?_;exact e
 refine D4r ⟨⟨hs.core.gens,hs.core.os,hs.core.base,hs.core.zin,fun b p e=>hs.core.yin b p (sub b p e),fun b p e=>hs.core.zy b p (sub b p e),hs.core.al,hs.core.rep,hs.core.zf,fun k p e=>?_,hs.core.inj⟩,hs.ok,hs.eok,hs.pin,hs.fid,hs.loc,hs.top,hs.cel,hs.ll,hs.lc⟩ ?_ (hs.core.zy _ _ ya) hy (fun k p e q=>?_)
 ·have:=hs.core.yf k p e
  cases q:y (Φ k)with
  |none=>rfl
  |some w=>rw [sub _ _ q]at this;exact k2 this
 ·rcases hs.core.yin a _ ya with e| ⟨e,_⟩
  ·exact e
  ·exact k4 e
 ·have:=hs.core.yf k p e
  rw [q,ya]at this;exact k2 this
theorem D1d.add{outer:List Env}{a:Addr}{o:Obj}(h:D1d outer y)(hy:y a=none):D1d outer (B8p y a o):=fun e he=>by
 refine A0f (h e he) fun h1 y9a=>B4p y9a fun L ob es ep h2 h3 h4=>A8b h1 (C1f L ob es ep h2 ?_ h4)
 unfold B8p
 rw [if_neg (fun q=>by rw [q,hy]at h3;exact k1 h3)];exact h3
theorem AOK.add{A:Around}{a:Addr}{o:Obj}(h:AOK d r env y A)(hy:y a=none):AOK d r env (B8p y a o) A:=
 ⟨h.h,h.dep,h.uni,fun q=>let ⟨e,outer,f,g⟩:=h.fr q;⟨e,outer,f,g.add hy⟩⟩
theorem Sim.off(hs:Sim S env σ P z y Φ s){a:Addr}(h:s.heap.get? a=none):Off (σ.obj S) z y Φ a:=by
 refine A4x ?_ ?_ (fun k o e q=>?_)
 ·cases e:z a with
  |none=>rfl
  |some o=>rw [hs.core.zin _ _ e]at h;exact k2 h
 ·cases e:y a with
  |none=>rfl
  |some o=>obtain ⟨oo,e'⟩:=(hs.core.yin _ _ e).live;rw [h]at e';exact k1 e'
 ·obtain ⟨oo,e'⟩:=(hs.core.rep k o e).live;rw [q,h]at e';exact k1 e'
theorem Sim.turn(hs:Sim S env σ P z y Φ s){a:Addr}(hoff:Off (σ.obj S) z y Φ a)(h':Heap)(tk:Nat)(k: ∀b o,b≠a→s.heap.get? b=some o→h'.get? b=some o)(hl: ¬Pf P a):Sim S env σ P z y Φ {s with heap:=h',toks:=tk}:=by
 refine A1a hoff fun h1 h2 h3=>?_
 try clear hoff
 refine⟨⟨hs.core.gens,hs.core.os,hs.core.base,fun b o e=>k b o (fun q=>by rw [q,h1]at e;exact k1 e) (hs.core.zin b o e),fun b p e=>(hs.core.yin b p e).keep fun oo e'=>k b oo (fun q=>by rw [q,h2]at e;exact k1 e) e',hs.core.zy,hs.core.al,
  fun q o e=>(hs.core.rep q o e).mono Ext0.refl fun oo e'=>k _ oo (h3 q o e) e',hs.core.zf,hs.core.yf,hs.core.inj⟩,hs.ok,hs.eok,hs.pin,hs.fid,hs.loc,fun f hf=>?_,hs.cel,hs.ll,hs.lc⟩
 refine A0i (hs.top f hf) fun o e=>?_
 exact⟨o,k f o (fun q=>hl (q▸hf)) e⟩
theorem Sim.nopf(hs:Sim S env σ P z y Φ s){a:Addr}(h:s.heap.get? a=none): ¬Pf P a:=fun hf=>by
 obtain ⟨o,e⟩:=hs.top a hf;rw [h]at e;exact k1 e
theorem Ext.unadd{f₀:Nat}{a:Addr}{o:Obj}{P' z' Φ'}(x:Ext f₀ (B8p y a o) P z Φ P' z' Φ')(hy:y a=none):Ext f₀ y P z Φ P' z' Φ'∧(¬Pf P a→ ¬Pf P' a):=by
 refine⟨⟨x.toExt0,x.fr,fun f hf=>(x.nf f hf).imp id fun h=>?_⟩,fun h1 h2=>?_⟩
 ·unfold B8p at h
  split at h
  ·exact k2 h
  ·exact h
 ·rcases x.nf a h2 with h|h
  ·exact h1 h
  ·unfold B8p at h;rw [if_pos rfl]at h;exact k2 h
noncomputable def C3t(S:SP)(d:Nat)(r:Bool)(env:Env)(x:Str)(body:List Stmt)(Q:AF→St→Prop):List AV→St→Prop
 | [],σ=>Q .next σ
 |a::l,σ=>A9c σ x a fun σ'=>W S d r env (RF S) (execs body env) σ' (fun f σ''=>B8q f σ'' (C3t S d r env x body Q l) Q) fun _=>False
theorem A0y(h:Heap):h.get? h.objs.size=none:=by
 cases e:h.get? h.objs.size with
 |none=>rfl
 |some o=>exact absurd (Heap.lt_size e) (Nat.lt_irrefl _)
theorem D0e{P z Φ}{e:Value}{s':Shared}{K:Prop}(h:A9p S env P z y Φ (fun _=>False) e s'):K:=by
 obtain ⟨_,_,_,_,_,_,_,_,_,hf⟩:=h;exact hf.elim
theorem B3b{x:Str}{xp:Pos}{body:List Stmt}{Q:AF→St→Prop}{A:Around}{I:Addr}{n:Nat}{Pw:Nat→Value→Prop}{Stt:Nat→Heap→Prop}{fp:List Addr}{l:List AV}{R:Result→Shared→Prop}
  (hA:AOK d r env y A) (WK:Walks S.prog S.w A I fp [I] n Pw Stt) (hfp: ∀b∈fp,b=I∨ ∃o,z b=some o) (hln:l.length=n) (hP: ∀i v a,Pw i v→l[i]? =some a→A1i S P z Φ a v)
  (hs:Sim S env σ P z y Φ s) (hoff:Off (σ.obj S) z y Φ I) (hpf: ¬Pf P I) (hst:Stt 0 s.heap) (h:C3t S d r env x body Q l σ)
  (hR: ∀f s',Res S env (RF S) P z y Φ Q f s'→R (.ok f) s') (hlive: ∀i h,Stt i h→ ∃o,h.get? I=some o):
  codeAny (model S.prog S.w) A (.forLoop (.Name x xp) (.ref I) body [] env) R s:=by
 let I9:Nat→Shared→Prop:=fun m s'=> ∃i P' z' Φ' σ',m=n+1-i∧i≤n∧Ext env.locals y P z Φ P' z' Φ'∧Sim S env σ' P' z' y Φ' s'∧Off (σ'.obj S) z' y Φ' I∧ ¬Pf P' I∧Stt i s'.heap∧C3t S d r env x body Q (l.drop i) σ'
 refine codeAny_forLoop I9 ?_ (n+1)
  ⟨0,P,z,Φ,σ,rfl,Nat.zero_le _,Ext.refl,hs,hoff,hpf,hst,by exact h⟩
 intro m s' h9
 refine C8n h9 fun i P' z' Φ' σ' y9a hi x' hs' hoff' y9b=>?_
 try clear h9
 refine A1a y9b fun hpf' hst' h'=>?_
 obtain rfl:=y9a
 by_cases hlt:i<n
 ·refine WK.item i _ _ _ hlt hst' fun v h₁ tk hv hst₁ hk₁=>?_
  have hs₁:Sim S env σ' P' z' y Φ' {s' with heap:=h₁,toks:=tk}:=hs'.turn hoff' h₁ tk (fun b o hb e=>hk₁ b o (by simpa using hb) e) hpf'
  have hli:l[i]? =some l[i]:=List.getElem?_eq_getElem (by exact Z5 hln hlt)
  have hvr:A1i S P' z' Φ' l[i] v:=A1i.mono x'.toExt0 _ _ (hP i v _ hv hli)
  have hd:l.drop i=l[i]::l.drop (i+1):=List.drop_eq_getElem_cons (by exact Z5 hln hlt)
  rw [hd]at h'
  refine A0e h' fun l' hp hw=>?_
  try clear h'
  refine A0i (hlive _ _ hst₁) fun oI hoI=>?_
  have hh:=hs₁.hold hoI hoff'
  refine wpAny_assign_Name (A3b hh hp hvr fun s₂ hs₂=>?_)
  refine W.run hw (hA.add hoff'.2.1) hs₂ (fun f s₃ P₃ z₃ Φ₃ σ₃ b x₃ r₃ hs₃ hq=>?_) fun e s' hx=>D0e hx
  refine A1a (hs₃.unhold hoff'.2.1) fun hs₄ hI₄ hoff₄=>A0f (x₃.unadd hoff'.2.1) fun x₄ hpf₄=>?_
  cases b with
  |next=>
   have e:f= .next:=r₃
   subst e
   refine A1f (n+1- (i+1)) (by exact Z6 hlt) (D0n (i+1) P₃ z₃ Φ₃ σ₃ rfl hlt (x'.trans x₄) hs₄ hoff₄ (A4x (hpf₄ hpf') (WK.frame _ _ _ hst₁ fun b hb o e=>?_) hq))
   rcases hfp b hb with rfl| ⟨o',ho'⟩
   ·rw [hoI]at e;cases e;exact hI₄
   ·have h1:=hs₁.core.zin b o' (x'.z _ _ ho')
    have h2:=hs₄.core.zin b o' (x₄.z _ _ (x'.z _ _ ho'))
    have h1:h₁.get? b=some o':=h1
    rw [h1]at e;cases e;exact h2
  |ret a=>
   refine A0e (r₃: ∃v,f= .ret v∧A1i S P₃ z₃ Φ₃ a v) fun v' y9a hv'=>?_
   obtain rfl:=y9a
   exact hR _ _ (Res.intro (b:= .ret a) (x'.trans x₄) (B3r hv') hs₄ (show Q (.ret a) σ₃ from hq))
 ·have hin:i=n:=by exact Z7 hi hlt
  subst hin
  have e:l.drop i= []:=List.drop_eq_nil_of_le (Nat.le_of_eq hln)
  rw [e]at h'
  refine WK.done _ _ _ hst' fun h₁ tk hk₁=>wpAny_execs_nil (hR _ _ ?_)
  exact Res.intro (b:= .next) x' A1y (hs'.turn hoff' h₁ tk (fun b o hb e=>hk₁ b o (by simpa using hb) e) hpf') (show Q .next σ' from h')
noncomputable def C8x(S:SP)(d:Nat)(r:Bool)(env:Env)(x:Str)(body:List Stmt)(k:Key)(l₀:List AV)(Q:AF→St→Prop):List AV→St→Prop
 | [],σ=>σ.obj S k=some (.list l₀)∧Q .next σ
 |a::l,σ=>σ.obj S k=some (.list l₀)∧A9c σ x a fun σ'=>W S d r env (RF S) (execs body env) σ' (fun f σ''=>B8q f σ'' (C8x S d r env x body k l₀ Q l) Q) fun _=>False
theorem C8x.obj{x:Str}{body:List Stmt}{k:Key}{l₀ l:List AV}{Q:AF→St→Prop}(h:C8x S d r env x body k l₀ Q l σ):σ.obj S k=some (.list l₀):=by cases l <;> exact h.1
theorem D0s{x:Str}{xp:Pos}{body:List Stmt}{Q:AF→St→Prop}{A:Around}{I:Addr}{k:Key}{l:List AV}{R:Result→Shared→Prop}
  (hA:AOK d r env y A) (hs:Sim S env σ P z y Φ s) (hne:Φ k≠I) (hoff:Off (σ.obj S) z y Φ I) (hpf: ¬Pf P I) (hst:s.heap.IsListIter I (Φ k) 0) (h:C8x S d r env x body k l Q l σ)
  (hR: ∀f s',Res S env (RF S) P z y Φ Q f s'→R (.ok f) s'):
  codeAny (model S.prog S.w) A (.forLoop (.Name x xp) (.ref I) body [] env) R s:=by
 have pk:P k:=hs.core.al _ _ h.obj
 let I9:Nat→Shared→Prop:=fun m s'=> ∃i P' z' Φ' σ',m=l.length+1-i∧i≤l.length∧Ext env.locals y P z Φ P' z' Φ'∧Sim S env σ' P' z' y Φ' s'∧Off (σ'.obj S) z' y Φ' I∧ ¬Pf P' I∧s'.heap.IsListIter I (Φ k) i∧C8x S d r env x body k l Q (l.drop i) σ'
 refine codeAny_forLoop I9 ?_ (l.length+1)
  ⟨0,P,z,Φ,σ,rfl,Nat.zero_le _,Ext.refl,hs,hoff,hpf,hst,by exact h⟩
 intro m s' h9
 refine C8n h9 fun i P' z' Φ' σ' y9a hi x' hs' hoff' y9b=>?_
 try clear h9
 refine A1a y9b fun hpf' hst' h'=>?_
 obtain rfl:=y9a
 refine A3w (hs'.core.rep _ _ h'.obj) fun its c g1 g2=>?_
 rw [x'.f k pk]at g1
 have hil:s'.heap.IsList (Φ k) its:=⟨_,g1,rfl,c,rfl⟩
 have hsz:its.size=l.length:=by have:=A0c.len g2;rwa [Array.length_toList]at this
 have WK:=Walks.list (prog:=S.prog) (w:=S.w) hA.h I (Φ k) hne its
 by_cases hlt:i<l.length
 ·refine WK.item i _ _ _ (by exact Z5 hsz hlt) ⟨hst',hil⟩ fun v h₁ tk hv hst₁ hk₁=>?_
  have hs₁:Sim S env σ' P' z' y Φ' {s' with heap:=h₁,toks:=tk}:=hs'.turn hoff' h₁ tk (fun b o hb e=>hk₁ b o (by simpa using hb) e) hpf'
  have hli:l[i]? =some l[i]:=List.getElem?_eq_getElem hlt
  refine A0e (g2.at i hli) fun u e1 hvr=>?_
  rw [Array.getElem?_toList]at e1
  rw [hv]at e1;cases e1
  have hd:l.drop i=l[i]::l.drop (i+1):=List.drop_eq_getElem_cons hlt
  rw [hd]at h'
  refine A0f h' fun _ y9a=>?_
  try clear h'
  refine A0e y9a fun l' hp hw=>A0e hst₁.1 fun oI hoI hoI2=>?_
  have hh:=hs₁.hold hoI hoff'
  refine wpAny_assign_Name (A3b hh hp hvr fun s₂ hs₂=>?_)
  refine W.run hw (hA.add hoff'.2.1) hs₂ (fun f s₃ P₃ z₃ Φ₃ σ₃ b x₃ r₃ hs₃ hq=>?_) fun e s' hx=>D0e hx
  refine A1a (hs₃.unhold hoff'.2.1) fun hs₄ hI₄ hoff₄=>A0f (x₃.unadd hoff'.2.1) fun x₄ hpf₄=>?_
  cases b with
  |next=>
   have e:f= .next:=r₃
   subst e
   exact A1f (l.length+1- (i+1)) (by exact Z6 hlt) (D0n (i+1) P₃ z₃ Φ₃ σ₃ rfl hlt (x'.trans x₄) hs₄ hoff₄ (A4x (hpf₄ hpf') ⟨oI,hI₄,hoI2⟩ hq))
  |ret a=>
   refine A0e (r₃: ∃v,f= .ret v∧A1i S P₃ z₃ Φ₃ a v) fun v' y9a hv'=>?_
   obtain rfl:=y9a
   exact hR _ _ (Res.intro (b:= .ret a) (x'.trans x₄) (B3r hv') hs₄ (show Q (.ret a) σ₃ from hq))
 ·have hin:i=l.length:=by exact Z7 hi hlt
  subst hin
  have e:l.drop l.length= []:=List.drop_eq_nil_of_le (Nat.le_refl _)
  rw [e]at h'
  refine WK.done _ _ _ (by rw [hsz];exact⟨hst',hil⟩) fun h₁ tk hk₁=>wpAny_execs_nil (hR _ _ ?_)
  exact Res.intro (b:= .next) x' A1y (hs'.turn hoff' h₁ tk (fun b o hb e=>hk₁ b o (by simpa using hb) e) hpf') (show Q .next σ' from h'.2)
noncomputable def D3n(S:SP)(d:Nat)(r:Bool)(env:Env)(x:Str)(body:List Stmt)(a:AV)(σ:St)(Q:AF→St→Prop):Prop:=
 match a with| .lst l=>C3t S d r env x body Q l σ| .tup l=>C3t S d r env x body Q l σ| .dic ks _=>C3t S d r env x body Q (ks.map .int) σ| .ref k=> ∃l,C8x S d r env x body k l Q l σ|_=>False
theorem D1i{x body l}{Q:AF→St→Prop}(h:C3t S d r env x body Q l σ):D3n S d r env x body (.lst l) σ Q:=h
theorem D5j{x body l}{Q:AF→St→Prop}(h:C3t S d r env x body Q l σ):D3n S d r env x body (.tup l) σ Q:=h
theorem D6f{x body ks l}{Q:AF→St→Prop}(h:C3t S d r env x body Q (ks.map .int) σ):D3n S d r env x body (.dic ks l) σ Q:=h
theorem D3r{x body k l}{Q:AF→St→Prop}(h:C8x S d r env x body k l Q l σ):D3n S d r env x body (.ref k) σ Q:=⟨l,h⟩
theorem B1l{x:Str}{xp iter body pos}{Q:AF→St→Prop}(hfs: ∀v,foldedSetIterable iter env v=pure v)(h:W S d r env (RV S) (eval iter env) σ (fun a σ₁=>D3n S d r env x body a σ₁ Q) X):
  W S d r env (RF S) (exec (.For (.Name x xp) iter body [] pos) env) σ Q X:=fun A P z y Φ s hA hs=>by
 refine wpAny_For (h.run hA hs (fun v s₁ P₁ z₁ Φ₁ σ₁ a x₁ r₁ hs₁ h₁=>?_) fun _ _ e=>e) hfs
 cases a with
 |lst l=>
  refine A3m (A8h r₁) fun b its n y9a hz hv=>?_
  obtain rfl:=y9a
  have hl:s₁.heap.IsList b its:=⟨_,hs₁.core.zin _ _ hz,rfl,n,rfl⟩
  refine wpAny_pyIter_list hl ?_
  have nI:=A0y s₁.heap
  have ne:b≠s₁.heap.objs.size:=Nat.ne_of_lt (Heap.lt_size (hs₁.core.zin _ _ hz))
  have hs₂:=hs₁.grow (s₁.heap.push {cls:= .type "list_iterator",data:= .fields #[.ref b,.int 0 0]}) s₁.toks s₁.drawn (fun _ _ e=>Heap.get?_push_of_some _ e)
  refine B3b hA (Walks.list (prog:=S.prog) (w:=S.w) hA.h s₁.heap.objs.size b ne its) (l:=l) ?_ ?_ ?_ hs₂ (hs₁.off nI) (hs₁.nopf nI) ⟨⟨_,Heap.get?_push_size _ rfl,rfl,rfl⟩,hl.push _⟩ h₁ (fun f s' hr=>Res.ext x₁ hr) fun i h ⟨⟨o,e,_⟩,_⟩=>⟨o,e⟩
  ·intro c hc
   rcases List.mem_cons.mp hc with rfl|hc
   ·exact .inl rfl
   ·rw [List.mem_singleton.mp hc];exact .inr ⟨_,hz⟩
  ·have:=A0c.len hv;simp only [Array.length_toList]at this;exact this.symm
  ·intro i v a hi ha
   refine A0e (hv.at i ha) fun u e1 e2=>?_
   rw [Array.getElem?_toList]at e1
   rw [e1]at hi;cases hi;exact e2
 |tup l=>
  refine A3m (A7p r₁) fun b its n y9a hz hv=>?_
  obtain rfl:=y9a
  have hl:s₁.heap.IsTuple b its:=⟨_,hs₁.core.zin _ _ hz,rfl,n,rfl⟩
  refine wpAny_pyIter_tuple hl ?_
  have nI:=A0y s₁.heap
  have ne:b≠s₁.heap.objs.size:=Nat.ne_of_lt (Heap.lt_size (hs₁.core.zin _ _ hz))
  have hs₂:=hs₁.grow (s₁.heap.push {cls:= .type "tuple_iterator",data:= .fields #[.ref b,.int 0 0]}) s₁.toks s₁.drawn (fun _ _ e=>Heap.get?_push_of_some _ e)
  refine B3b hA (Walks.tuple (prog:=S.prog) (w:=S.w) hA.h s₁.heap.objs.size b ne its) (l:=l) ?_ ?_ ?_ hs₂ (hs₁.off nI) (hs₁.nopf nI) ⟨⟨_,Heap.get?_push_size _ rfl,rfl,rfl⟩,hl.push _⟩ h₁ (fun f s' hr=>Res.ext x₁ hr) fun i h ⟨⟨o,e,_⟩,_⟩=>⟨o,e⟩
  ·intro c hc
   rcases List.mem_cons.mp hc with rfl|hc
   ·exact .inl rfl
   ·rw [List.mem_singleton.mp hc];exact .inr ⟨_,hz⟩
  ·have:=A0c.len hv;simp only [Array.length_toList]at this;exact this.symm
  ·intro i v a hi ha
   refine A0e (hv.at i ha) fun u e1 e2=>?_
   rw [Array.getElem?_toList]at e1
   rw [e1]at hi;cases hi;exact e2
 |ref k=>
  refine A0i (h₁: ∃l,C8x S d r env x body k l Q l σ₁) fun l h₁=>A0f (by exact r₁:P₁ k∧v= .ref (Φ₁ k)) fun pk y9a=>?_
  obtain rfl:=y9a
  refine A3w (hs₁.core.rep _ _ h₁.obj) fun its c g1 g2=>?_
  have hl:s₁.heap.IsList (Φ₁ k) its:=⟨_,g1,rfl,c,rfl⟩
  refine wpAny_pyIter_list hl ?_
  have nI:=A0y s₁.heap
  have ne:Φ₁ k≠s₁.heap.objs.size:=Nat.ne_of_lt (Heap.lt_size g1)
  have hs₂:=hs₁.grow (s₁.heap.push {cls:= .type "list_iterator",data:= .fields #[.ref (Φ₁ k),.int 0 0]}) s₁.toks s₁.drawn (fun _ _ e=>Heap.get?_push_of_some _ e)
  exact D0s hA hs₂ ne (hs₁.off nI) (hs₁.nopf nI) ⟨_,Heap.get?_push_size _ rfl,rfl,rfl⟩ h₁ fun f s' hr=>Res.ext x₁ hr
 |dic ks l=>
  refine B4q (B1b r₁) fun b o vs y9a hnm hz hd hk hl=>?_
  try clear r₁
  obtain rfl:=y9a
  have hdo:s₁.heap.DictOf (intKind S.prog S.w) b (ks.zip vs):=Heap.dictOf_iff.mpr ⟨o,hs₁.core.zin _ _ hz,hd⟩
  refine A0i hdo.dictAt fun ep hda=>?_
  have hlen:(ks.zip vs).length=ks.length:=by refine(List.length_zip).trans ?_;lia
  refine wpAny_pyIter_dict (by simpa using hnm) hda ?_
  have nI:=A0y s₁.heap
  have ne:b≠s₁.heap.objs.size:=Nat.ne_of_lt (Heap.lt_size (hs₁.core.zin _ _ hz))
  have hs₂:=hs₁.grow (s₁.heap.push {cls:= .type "dict_keyiterator",data:= .fields #[.ref b,.int 0 0,.int (ks.zip vs).length 0,.int ep 0]}) s₁.toks s₁.drawn (fun _ _ e=>Heap.get?_push_of_some _ e)
  refine B3b hA (Walks.dictKeys (prog:=S.prog) (w:=S.w) (knd:=intKind S.prog S.w) hA.h s₁.heap.objs.size b ne (ks.zip vs) ep) (l:=ks.map .int) ?_ ?_ ?_ hs₂ (hs₁.off nI) (hs₁.nopf nI) ⟨⟨_,Heap.get?_push_size _ rfl,rfl,rfl⟩,hda.push _⟩ h₁ (fun f s' hr=>Res.ext x₁ hr) fun i h ⟨⟨o,e,_⟩,_⟩=>⟨o,e⟩
  ·intro c hc
   rcases List.mem_cons.mp hc with rfl|hc
   ·exact .inl rfl
   ·rw [List.mem_singleton.mp hc];exact .inr ⟨_,hz⟩
  ·simp only [List.length_map,hlen]
  ·rintro i v a ⟨k,x,hi,hkv⟩ ha
   rw [List.getElem?_map]at ha
   have:ks[i]? =some k:=by
    rw [List.getElem?_zip_eq_some]at hi;exact hi.1
   rw [this]at ha;cases ha
   refine A0i (Value.isInt_shape (show Value.isInt k v=true from hkv)) fun tk y9a=>?_
   obtain rfl:=y9a
   exact B5f
 |_=>exact False.elim h₁
end
section
variable {S:SP} {d:Nat} {r:Bool} {env:Env} {σ:St} {X:St→Prop}
theorem B9u{P z Φ}{name:Str}{m:List (Str×AV)}{es:List DictEntry}(g:A8j S P z Φ m es)(hn:m.lookup name=none):getL name es=some none:=by
 induction m generalizing es with
 |nil=>obtain rfl:es= []:=g;rfl
 |cons p m ih=>
  obtain ⟨x,b⟩:=p
  refine C8o g.un fun en rr t y9a hk hb hr=>?_
  subst y9a
  simp only [List.lookup_cons]at hn
  cases q:name == x with
  |true=>rw [q]at hn;exact k2 hn
  |false=>
   rw [q]at hn
   have this:=ih hr hn
   have q2:en.key.isStr name=false:=by
    rw [hk]
    show(x == name)=false
    have q': ¬name=x:=by simpa using q
    simpa using fun e:x=name=>q' e.symm
   have q3:en.refKey=false:=by unfold DictEntry.refKey;rw [hk]
   unfold getL at this ⊢
   rw [List.find?_cons,q2,List.any_cons,q3]
   exact this
theorem C3w{test:Expr}{body:List Stmt}{pos:Pos}{Q:AF→St→Prop}(I:Nat→St→Prop)(n:Nat)(h0:I n σ)
  (turn: ∀n σ,let K:AF→St→Prop:=fun f σ₂=>B8q f σ₂ (fun σ₃=> ∃m,m<n∧I m σ₃) Q;I n σ→W S d r env RB (isTrue test env (eval test env)) σ (fun b σ₁=>(b=true→W S d r env (RF S) (execs body env) σ₁ K fun _=>False)∧(b=false→Q .next σ₁)) fun _=>False):
  W S d r env (RF S) (exec (.While test body [] pos) env) σ Q X:=fun A P z y Φ s hA hs=>by
 let I9:Nat→Shared→Prop:=fun m s'=> ∃P' z' Φ' σ',Ext env.locals y P z Φ P' z' Φ'∧Sim S env σ' P' z' y Φ' s'∧I m σ'
 refine wpAny_While (codeAny_whileLoop I9 ?_ n ⟨P,z,Φ,σ,Ext.refl,hs,h0⟩)
 intro m s' h9
 refine B4p h9 fun P' z' Φ' σ' x' hs' hI=>?_
 try clear h9
 refine(turn m σ' hI).run hA hs' (fun b s₁ P₁ z₁ Φ₁ σ₁ b' x₁ r₁ hs₁ hq=>?_) fun e s' hx=>D0e hx
 have e:b=b':=r₁
 subst e
 cases b with
 |true=>
  refine(hq.1 rfl).run hA hs₁ (fun f s₂ P₂ z₂ Φ₂ σ₂ c x₂ r₂ hs₂ h₂=>?_) fun e s' hx=>D0e hx
  cases c with
  |next=>
   have e:f= .next:=r₂
   subst e
   refine A0e (h₂: ∃m',m'<m∧I m' σ₂) fun m' hm hI'=>?_
   exact A1f m' hm (C1f P₂ z₂ Φ₂ σ₂ ((x'.trans x₁).trans x₂) hs₂ hI')
  |ret a=>
   refine A0e (r₂: ∃v,f= .ret v∧A1i S P₂ z₂ Φ₂ a v) fun v' y9a hv'=>?_
   obtain rfl:=y9a
   exact Res.intro (b:= .ret a) ((x'.trans x₁).trans x₂) (B3r hv') hs₂ (show Q (.ret a) σ₂ from h₂)
 |false=>exact wpAny_execs_nil (Res.intro (b:= .next) (x'.trans x₁) A1y hs₁ (hq.2 rfl))
theorem B6r{ι:Type}{test:Expr}{body:List Stmt}{pos:Pos}{Q:AF→St→Prop}(I:List ι→St→Prop)(μ:List ι→Nat){L:List ι}(h0:I L σ)
  (tst: ∀l σ,I l σ→W S d r env RB (isTrue test env (eval test env)) σ (fun b σ₁=>b= !l.isEmpty∧σ₁=σ) fun _=>False)
  (turn: ∀a l σ,let K:AF→St→Prop:=fun f σ₂=>B8q f σ₂ (fun σ₃=> ∃l',μ l'<μ (a::l)∧I l' σ₃) Q;I (a::l) σ→W S d r env (RF S) (execs body env) σ K fun _=>False)
  (fin: ∀σ,I [] σ→Q .next σ):W S d r env (RF S) (exec (.While test body [] pos) env) σ Q X:=by
 refine C3w (fun n σ=> ∃l,n=μ l∧I l σ) (μ L) ⟨L,rfl,h0⟩ fun n σ=>?_
 intro K9 h
 obtain ⟨l,rfl,hI⟩:=h
 refine(tst l σ hI).mono (fun b σ₁ hb=>?_) fun _ h=>h
 obtain ⟨rfl,rfl⟩:=hb
 cases l with
 |nil=>exact⟨fun h=>k4 h,fun _=>fin _ hI⟩
 |cons a l=>
  refine⟨fun _=>(turn a l _ hI).mono (fun f σ₂ h=>?_) fun _ h=>h,fun h=>k4 h.symm⟩
  cases f with
  |next=>exact h.elim fun l' h=>⟨μ l',h.1,l',rfl,h.2⟩
  |ret a=>exact h
theorem A0g{pos:Pos}{Q:List AV→St→Prop}(h:Q [] σ):W S d r env (RL S) (spliced (backTo pos (starEach [] env))) σ Q X:=fun A P z y Φ s hA hs=>
 spliced_nil (Res.of (b:= []) hs A0c.nil h)
theorem A0b{pos:Pos}{e:Expr}{rest:List Expr}{Q:List AV→St→Prop}(he:starEach (e::rest) env=(false,eval e env)::starEach rest env)
  (h:W S d r env (RV S) (eval e env) σ (fun a σ₁=>W S d r env (RL S) (spliced (backTo pos (starEach rest env))) σ₁ (fun as σ₂=>Q (a::as) σ₂) X) X):
  W S d r env (RL S) (spliced (backTo pos (starEach (e::rest) env))) σ Q X:=fun A P z y Φ s hA hs=>by
 rw [he]
 show wpAny _ A (spliced ((false,eval e env)::backTo pos (starEach rest env))) _ _ s
 exact spliced_cons (h.run hA hs (fun v s₁ P₁ z₁ Φ₁ σ₁ a x₁ r₁ hs₁ h₁=>h₁.run hA hs₁ (fun vs s₂ P₂ z₂ Φ₂ σ₂ as x₂ r₂ hs₂ h₂=>
  Res.intro (b:=a::as) (x₁.trans x₂) (A0c.cons (A1i.mono x₂.toExt0 _ _ r₁) r₂) hs₂ h₂) fun e s' hx=>hx.ext x₁) fun e s' hx=>hx)
theorem A1q{f:Str}{fp pos:Pos}{a:Addr}{e:Expr}{rest:List Expr}{Q:AV→St→Prop}(hx:f∈σ.glb)(hg:S.mg f=some (.ref a))(hk:keepIn S.K (.ref a)=true)
  (he:starEach (e::rest) env=(false,eval e env)::starEach rest env) (hplain:(backTo pos (starEach rest env)).any (·.1)=false)
  (h:W S d r env (RL S) (spliced (backTo pos (starEach (e::rest) env))) σ (fun as σ₁=>WC S d r env a as σ₁ Q X) X):
  W S d r env (RV S) (eval (.Call (.Name f fp) (e::rest) [] pos) env) σ Q X:=fun A P z y Φ s hA hs=>
 wpAny_Call_Name_kw (C1g hs hx hg (callWith_K (h₀:=s.heap) hs.kin hk (h.run hA hs (fun vs s₁ P₁ z₁ Φ₁ σ₁ as x₁ r₁ hs₁ h₁=>⟨hs₁.kin,
  W1.run (t:=fun vs=>call (.ref a) vs) (v:=vs) h₁.w1 hA hs₁ r₁ (fun c s₃ P₃ z₃ Φ₃ σ₃ g x₃ r₃ hs₃ q=>Res.intro (x₁.trans x₃) r₃ hs₃ q) fun e s' hx=>hx.ext x₁⟩) fun e s' hx=>hx) he hplain))
noncomputable def WB(S:SP)(d:Nat)(r:Bool)(env:Env)(b:Value)(as:List AV)(σ:St)(Q:AV→St→Prop)(X:St→Prop):Prop:=
 W1 S d r env (RL S) (RV S) (fun vs=>call b vs) as σ Q X
theorem B3k{f:Str}{fp pos:Pos}{b:Value}{e:Expr}{rest:List Expr}{Q:AV→St→Prop}(hx:f∈σ.glb)(hn:S.mg f=none)(hg:S.mb f=some b)(hb: ∀a,b≠ .ref a)
  (he:starEach (e::rest) env=(false,eval e env)::starEach rest env) (hplain:(backTo pos (starEach rest env)).any (·.1)=false)
  (h:W S d r env (RL S) (spliced (backTo pos (starEach (e::rest) env))) σ (fun as σ₁=>WB S d r env b as σ₁ Q X) X):
  W S d r env (RV S) (eval (.Call (.Name f fp) (e::rest) [] pos) env) σ Q X:=fun A P z y Φ s hA hs=>by
 refine wpAny_Call_Name_kw (B8j hs hx hn hg ?_)
 show wpAny _ A (callWith pos b [] (backTo pos (starEach (e::rest) env)) []) _ _ s
 have hb':(backTo pos (starEach (e::rest) env))=(false,eval e env)::backTo pos (starEach rest env):=by refine(congrArg _ (he)).trans ?_;rfl
 have h':=h A P z y Φ s hA hs
 rw [hb']at h' ⊢
 refine callWith_of (P:=fun _=>True) (by show((false || (backTo pos (starEach rest env)).any (·.1)) || false)=false;rw [hplain];rfl) (fun h _=>⟨.machine,.inr (.inl rfl),by
  cases b <;> first|exact absurd rfl (hb _)|exact Looks.of_pure rfl⟩) (evalArgs_plain (wpAny_mono h' (fun vs s₁ h₁=>?_) fun _ _ e=>e))
 refine D0w h₁ fun P₁ z₁ Φ₁ σ₁ as x₁ r₁ hs₁ hq=>?_
 try clear h₁
 exact⟨trivial,W1.run (t:=fun vs=>call b vs) (v:=vs) hq hA hs₁ r₁ (fun c s₃ P₃ z₃ Φ₃ σ₃ g x₃ r₃ hs₃ q=>Res.intro (x₁.trans x₃) r₃ hs₃ q) fun e s' hx=>hx.ext x₁⟩
noncomputable def GM(S:SP)(d:Nat)(r:Bool)(env:Env)(name:Str)(pl:Sem Bool)(pos:Pos)(args:List Expr)(b:AV)(σ:St)(Q:AV→St→Prop)(X:St→Prop):Prop:=
 ∀A P z y Φ s v,AOK d r env y A→Sim S env σ P z y Φ s→A1i S P z Φ b v→
  wpAny (model S.prog S.w) A (getMethod v name pl) (fun fx s₂=>wpAny (model S.prog S.w) A (callWith pos fx.1 fx.2 (backTo pos (starEach args env)) []) (Res S env (RV S) P z y Φ Q) (A9p S env P z y Φ X) s₂) (A9p S env P z y Φ X) s
theorem A6z{o:Expr}{name:Str}{pl:Sem Bool}{apos pos:Pos}{args:List Expr}{Q:AV→St→Prop}
  (he:eval (.Call (.Attribute o name apos) args [] pos) env=(do
   let ov ←eval o env
   standAt apos.atName
   let (f,first)←holding [ov] (getMethod ov name pl)
   callWith pos f first (backTo pos (starEach args env)) (backToKw pos (keywordEach [] env))))
  (h:W S d r env (RV S) (eval o env) σ (fun b σ₁=>GM S d r env name pl pos args b σ₁ Q X) X):W S d r env (RV S) (eval (.Call (.Attribute o name apos) args [] pos) env) σ Q X:=fun A P z y Φ s hA hs=>
 methodCall_KW (h.run hA hs (fun v s₁ P₁ z₁ Φ₁ σ₁ b x₁ r₁ hs₁ h₁=>wpAny_mono (h₁ A P₁ z₁ y Φ₁ s₁ v hA hs₁ r₁) (fun fx s₂ k=>wpAny_mono k (fun _ _ q=>q.ext x₁) fun _ _ q=>q.ext x₁) fun _ _ q=>q.ext x₁) fun e s' hx=>hx) he
noncomputable def A2m(K:Frag)(C:Addr)(name:Str)(a:Addr):Bool:=plainGet K C name && (findIn K (.ref C) name == some (some (.ref a))) && isFn K (.ref a) && keepIn K (.ref a)
theorem A9s{k dk:Key}{C:Addr}{m:List (Str×AV)}{name:Str}{a:Addr}{pl:Sem Bool}{pos:Pos}{e:Expr}{rest:List Expr}{Q:AV→St→Prop}(h1:σ.obj S k=some (.inst C dk))(h2:σ.obj S dk=some (.ns m))(hm:A2m S.K C name a=true)(hn:m.lookup name=none)
  (he:starEach (e::rest) env=(false,eval e env)::starEach rest env) (hplain:(backTo pos (starEach rest env)).any (·.1)=false)
  (h:W S d r env (RL S) (spliced (backTo pos (starEach (e::rest) env))) σ (fun as σ₁=>WC S d r env a (.ref k::as) σ₁ Q X) X):GM S d r env name pl pos (e::rest) (.ref k) σ Q X:=fun A P z y Φ s v hA hs hv=>by
 refine A0f (A1s hv) fun hp y9a=>?_
 obtain rfl:=y9a
 refine A0f (hs.core.rep _ _ h1) fun g1 g2=>A3w (hs.core.rep _ _ h2) fun es n g3 g4=>?_
 simp [A2m,Bool.and_eq_true,beq_iff_eq]at hm
 refine A0f hm fun y9a m4=>?_
 try clear hm
 obtain ⟨⟨m1,m2⟩,m3⟩:=y9a
 have hl:getL name es=some none:=B9u g4 hn
 refine method_fn hs.kin (od:=some (dictOf es n)) ⟨g1,rfl,rfl,g3⟩ (plainGet_of m1).1 (plainGet_of m1).2 m2 (beq_iff_eq.mp m3) (by show(lookIn name (dictOf es n)).map _=_;simp only [lookIn_dict,hl];rfl) ?_
 exact callWith_K (h₀:=s.heap) hs.kin m4 (h.run hA hs (fun vs s₁ P₁ z₁ Φ₁ σ₁ as x₁ r₁ hs₁ h₁=>⟨hs₁.kin,
  W1.run (v:=Value.ref (Φ k)::vs) h₁.w1 hA hs₁ (A0c.cons (A1i.mono x₁.toExt0 _ _ hv) r₁) (fun c s₃ P₃ z₃ Φ₃ σ₃ g x₃ r₃ hs₃ q=>Res.intro (x₁.trans x₃) r₃ hs₃ q) fun e s' hx=>hx.ext x₁⟩) fun e s' hx=>hx) he hplain
theorem D0f{k dk:Key}{C:Addr}{m:List (Str×AV)}{name:Str}{a:Addr}{pl:Sem Bool}{pos:Pos}{Q:AV→St→Prop}(h1:σ.obj S k=some (.inst C dk))(h2:σ.obj S dk=some (.ns m))(hm:A2m S.K C name a=true)(hn:m.lookup name=none)
  (h:WC S d r env a [.ref k] σ Q X):GM S d r env name pl pos [] (.ref k) σ Q X:=fun A P z y Φ s v hA hs hv=>by
 refine A0f (A1s hv) fun hp y9a=>?_
 obtain rfl:=y9a
 refine A0f (hs.core.rep _ _ h1) fun g1 g2=>A3w (hs.core.rep _ _ h2) fun es n g3 g4=>?_
 simp [A2m,Bool.and_eq_true,beq_iff_eq]at hm
 refine A0f hm fun y9a m4=>?_
 try clear hm
 obtain ⟨⟨m1,m2⟩,m3⟩:=y9a
 have hl:getL name es=some none:=B9u g4 hn
 refine method_fn hs.kin (od:=some (dictOf es n)) ⟨g1,rfl,rfl,g3⟩ (plainGet_of m1).1 (plainGet_of m1).2 m2 (beq_iff_eq.mp m3) (by show(lookIn name (dictOf es n)).map _=_;simp only [lookIn_dict,hl];rfl) (callWith_K0 hs.kin m4 ?_)
 exact W1.run (v:= [Value.ref (Φ k)]) h.w1 hA hs (A0c.cons hv A0c.nil) (fun c s₃ P₃ z₃ Φ₃ σ₃ g x₃ r₃ hs₃ q=>Res.intro x₃ r₃ hs₃ q) fun e s' hx=>hx
noncomputable def D5c(a:AV):Prop:=match a with| .none=>True| .int _=>True| .bool _=>True|_=>False
theorem A2g{e pos}{Q:AF→St→Prop}(hi:interactive env=false)(hsw:swapsWith e none pos.line env=pure false)(h:W S d r env (RV S) (eval e env) σ (fun a σ₁=>D5c a∧Q .next σ₁) X):
  W S d r env (RF S) (exec (.Expr e pos) env) σ Q X:=fun A P z y Φ s hA hs=>
 wpAny_Expr (h.run hA hs (fun v s₁ P₁ z₁ Φ₁ σ₁ a x₁ r₁ hs₁ h₁=>by
  have fin:Res S env (RF S) P z y Φ Q Flow.next s₁:=Res.intro (b:= .next) x₁ A1y hs₁ h₁.2
  have hn:=h₁.1
  cases a with
  |none=>rw [A7z r₁];exact fin
  |int i=>obtain ⟨t,rfl⟩:=A0r r₁;exact fin
  |bool b=>rw [A8d r₁];exact fin
  |_=>exact hn.elim) fun e s' hx=>hx) hi hsw
end
section
variable {S:SP} {d:Nat} {r:Bool} {env:Env} {σ:St} {X:St→Prop} {P:Key→Prop} {z:Gh} {y:Gy} {Φ:Key→Addr} {s:Shared}
noncomputable def LA(S:SP)(σ:St)(a:AV)(l:List AV):Prop:=a= .lst l∨ ∃k,a= .ref k∧σ.obj S k=some (.list l)
theorem A1g{l:List AV}:LA S σ (.lst l) l:= .inl rfl
theorem C9d{k:Nat}{l:List AV}(h:σ.tmp[k]? =some (some (.list l))):LA S σ (.ref (.tmp σ.fid k)) l:= .inr ⟨_,rfl,A1t.mpr ⟨rfl,h⟩⟩
theorem D2o{t:Tree}{n:Int}{w:Win}(h1:σ.tr=some t)(h2:t.get n=some w):LA S σ (.ref (.kid n w.ver)) (w.kids.map .int):= .inr ⟨_,rfl,by simp [St.obj,A2p h1 h2]⟩
theorem LA.at{a:AV}{l:List AV}{v:Value}(h:LA S σ a l)(hs:Sim S env σ P z y Φ s)(hv:A1i S P z Φ a v):
  ∃b its n,v= .ref b∧s.heap.get? b=some ⟨.type "list",none,.seq its n,#[]⟩∧A0c S P z Φ l its.toList:=by
 rcases h with rfl| ⟨k,rfl,h⟩
 ·obtain ⟨b,its,n,e,hz,hl⟩:=A8h hv;exact⟨b,its,n,e,hs.core.zin _ _ hz,hl⟩
 ·refine A0f (A1s hv) fun _ y9a=>?_
  obtain rfl:=y9a
  refine A3w (hs.core.rep _ _ h) fun its n e hl=>?_
  exact D0o _ its n rfl e hl
theorem A0c.size{l:List AV}{its:Array Value}(h:A0c S P z Φ l its.toList):its.size=l.length:=by have:=A0c.len h;rwa [Array.length_toList]at this
theorem Sim.push(hs:Sim S env σ P z y Φ s)(o:Obj)(hf:o.isFreed=false):
  Ext env.locals y P z Φ P (fun a=>if a=s.heap.objs.size then some o else z a) Φ∧Sim S env σ P (fun a=>if a=s.heap.objs.size then some o else z a) y Φ {s with heap:=s.heap.push o}:=by
 refine A0f (hs.core.freezeNew (s.heap.push o) s.toks s.drawn (fun _ _ e=>Heap.get?_push_of_some _ e) (A0y _) (Heap.get?_push_size _ hf)) fun c x=>?_
 exact⟨⟨x,fun _ _ _ h=> .inl h,fun _ h=> .inl h⟩,c,hs.ok,hs.eok,hs.pin,hs.fid,hs.loc,fun f hf=>let ⟨o,e⟩:=hs.top f hf;⟨o,Heap.get?_push_of_some _ e⟩,hs.cel,hs.ll,hs.lc⟩
theorem A7v{Q:AV→St→Prop}{l:List AV}{its:Array Value}(hs:Sim S env σ P z y Φ s)(hl:A0c S P z Φ l its.toList)(h:Q (.lst l) σ):
  Res S env (RV S) P z y Φ Q (.ref s.heap.objs.size) {s with heap:=s.heap.push {cls:= .type "list",data:= .seq its}}:=by
 refine A0f (hs.push {cls:= .type "list",data:= .seq its} rfl) fun x hs'=>?_
 exact Res.intro (b:= .lst l) x (C6l (if_pos rfl) (A0c.mono x.toExt0 _ _ hl)) hs' h
theorem C2p{Q:AV→St→Prop}{l:List AV}{its:Array Value}(hs:Sim S env σ P z y Φ s)(hl:A0c S P z Φ l its.toList)(h:Q (.tup l) σ):
  Res S env (RV S) P z y Φ Q (.ref s.heap.objs.size) {s with heap:=s.heap.push {cls:= .type "tuple",data:= .seq its}}:=by
 refine A0f (hs.push {cls:= .type "tuple",data:= .seq its} rfl) fun x hs'=>?_
 exact Res.intro (b:= .tup l) x (D5e (if_pos rfl) (A0c.mono x.toExt0 _ _ hl)) hs' h
theorem A5j{elts pos}{Q:AV→St→Prop}(h:W S d r env (RL S) (spliced (backTo pos (starEach elts env))) σ (fun as σ₁=>as.length≤1000∧Q (.lst as) σ₁) X):W S d r env (RV S) (eval (.List elts pos) env) σ Q X:=fun A P z y Φ s hA hs=>
 List_ (h.run hA hs (fun vs s₁ P₁ z₁ Φ₁ σ₁ as x₁ r₁ hs₁ h₁=>wpAny_newObj_type (Res.ext x₁ (A7v hs₁ (by simpa using r₁) h₁.2)) (by
  have:=A0c.len r₁;have:=h₁.1;show vs.toArray.size≤sizeLine;simp only [List.size_toArray,sizeLine_eq];lia)) fun e s' hx=>hx)
theorem A0z{elts k pos}{Q:AV→St→Prop}(h:W S d r env (RL S) (spliced (backTo pos (starEach elts env))) σ (fun as σ₁=>as.length≤1000∧Q (.tup as) σ₁) X):W S d r env (RV S) (eval (.Tuple elts k pos) env) σ Q X:=fun A P z y Φ s hA hs=>
 Tuple_ (h.run hA hs (fun vs s₁ P₁ z₁ Φ₁ σ₁ as x₁ r₁ hs₁ h₁=>wpAny_newObj_type (Res.ext x₁ (C2p hs₁ (by simpa using r₁) h₁.2)) (by
  have:=A0c.len r₁;have:=h₁.1;show vs.toArray.size≤sizeLine;simp only [List.size_toArray,sizeLine_eq];lia)) fun e s' hx=>hx)
noncomputable def D1n(q:Key)(f:Nat):Prop:=q= .loc f∨(∃k,q= .tmp f k)∨(∃k,q= .cel f k)∨q= .rl f∨q= .rlD f
theorem D1y{q:Key}{f:Nat}(h:Pf (fun j=>P j∨j=q) f):Pf P f∨D1n q f:=by
 rcases h with h| ⟨k,h⟩| ⟨k,h⟩|h|h <;> rcases h with h|h
 ·exact .inl (.inl h)
 ·exact .inr (.inl h.symm)
 ·exact .inl (.inr (.inl ⟨k,h⟩))
 ·exact .inr (.inr (.inl ⟨k,h.symm⟩))
 ·exact .inl (.inr (.inr (.inl ⟨k,h⟩)))
 ·exact .inr (.inr (.inr (.inl ⟨k,h.symm⟩)))
 ·exact .inl (.inr (.inr (.inr (.inl h))))
 ·exact .inr (.inr (.inr (.inr (.inl h.symm))))
 ·exact .inl (.inr (.inr (.inr (.inr h))))
 ·exact .inr (.inr (.inr (.inr (.inr h.symm))))
theorem Sim.addkey(hs:Sim S env σ P z y Φ s){q:Key}{b:Addr}{σ':St}{z':Gh}{s':Shared}(hq: ¬P q)(hz: ∀a o,z a=some o→z' a=some o)(c:Core S (σ'.obj S) (fun j=>P j∨j=q) z' y (fun j=>if j=q then b else Φ j) s')
  (e:σ'.fid=σ.fid∧σ'.cfid=σ.cfid∧σ'.nam=σ.nam∧σ'.cnm=σ.cnm∧σ'.glb=σ.glb∧σ'.loc.length=σ.loc.length∧σ'.cel.length=σ.cel.length) (pin:PInv σ' (fun j=>P j∨j=q))
  (hA: ∀f,D1n q f→Pf P f∨y f=none) (hB: ∀f k,q= .tmp f k→f=σ.fid) (hC: ∀f,D1n q f→ ∃o,s'.heap.get? f=some o) (hl: ∀f,(∃o,s.heap.get? f=some o)→ ∃o,s'.heap.get? f=some o):
  Ext env.locals y P z Φ (fun j=>P j∨j=q) z' (fun j=>if j=q then b else Φ j)∧Sim S env σ' (fun j=>P j∨j=q) z' y (fun j=>if j=q then b else Φ j) s':=by
 refine B8a e fun e1 e2 e3 e4 e5 y9a=>?_
 try clear e
 refine A0f y9a fun e6 e7=>?_
 have ne: ∀j,P j→j≠q:=fun j hj h=>hq (h▸hj)
 have pl:P (.loc σ.fid):=hs.core.al _ _ A1l
 refine⟨⟨⟨fun _ h=> .inl h,hz,fun j hj=>if_neg (ne j hj)⟩,fun f k hf h=>h.elim .inl fun h=>?_,fun f h=>?_⟩,c,hs.ok,?_,pin,e1.trans hs.fid,?_,fun f h=>?_,fun i x hx=>?_,by simp only [e6,e3];exact hs.ll,by simp only [e7,e4];exact hs.lc⟩
 ·exact absurd ((hB f k h.symm).trans hs.fid) hf
 ·exact (D1y h).elim .inl (hA f)
 ·simp only [e3,e4,e5];exact hs.eok
 ·rw [e1,if_neg (ne _ pl)];exact hs.loc
 ·rcases D1y h with h|h
  ·exact hl f (hs.top f h)
  ·exact hC f h
 ·rw [e4]at hx;rw [e2]
  have hi:i<σ.cel.length:=by simp only [hs.lc];exact(List.getElem?_eq_some_iff.mp hx).1
  have:P (.cel σ.cfid i):=hs.core.al _ _ (A2e.mpr ⟨rfl,_,List.getElem?_eq_getElem hi,rfl⟩)
  rw [if_neg (ne _ this)];exact hs.cel i x hx
theorem B6g{c:CO}(j:Key)(h:j≠ .tmp σ.fid σ.tmp.length):({σ with tmp:=σ.tmp++ [some c]}:St).obj S j=σ.obj S j:=by
 cases j with
 |tmp f i=>
  simp only [St.obj]
  by_cases hf:f=σ.fid
  ·rw [if_pos hf,if_pos hf]
   have:i≠σ.tmp.length:=fun e=>h (by simp only [hf,e])
   by_cases hi:i<σ.tmp.length
   ·exact congrArg _ (List.getElem?_append_left hi)
   ·rw [List.getElem?_append_right (Nat.le_of_not_lt hi),List.getElem?_eq_none (Nat.le_of_not_lt hi:σ.tmp.length≤i),List.getElem?_eq_none (by simp;lia)]
  ·rw [if_neg hf,if_neg hf]
 |_=>rfl
theorem Sim.newtmp(hs:Sim S env σ P z y Φ s){l:List AV}{its:Array Value}(hl:A0c S P z Φ l its.toList):
  ∃P' Φ',Ext env.locals y P z Φ P' z Φ'∧Sim S env {σ with tmp:=σ.tmp++ [some (.list l)]} P' z y Φ' {s with heap:=s.heap.push {cls:= .type "list",data:= .seq its}}∧A1i S P' z Φ' (.ref (.tmp σ.fid σ.tmp.length)) (.ref s.heap.objs.size):=by
 have hn: ¬P (.tmp σ.fid σ.tmp.length):=fun h=>Nat.lt_irrefl _ (hs.pin.tmp _ h)
 have k: ∀a o,s.heap.get? a=some o→(s.heap.push {cls:= .type "list",data:= .seq its}).get? a=some o:=fun _ _ e=>Heap.get?_push_of_some _ e
 have hne: ∀j,P j→j≠ .tmp σ.fid σ.tmp.length:=fun j hj e=>hn (e▸hj)
 have x0:Ext0 P z Φ (fun j=>P j∨j= .tmp σ.fid σ.tmp.length) z (fun j=>if j= .tmp σ.fid σ.tmp.length then s.heap.objs.size else Φ j):=⟨fun _ h=> .inl h,fun _ _ e=>e,fun j hj=>if_neg (hne j hj)⟩
 obtain ⟨c,x⟩:=hs.core.alloc (ob':=({σ with tmp:=σ.tmp++ [some (.list l)]}:St).obj S) (s.heap.push {cls:= .type "list",data:= .seq its}) s.toks s.drawn k (b:=s.heap.objs.size) (q:= .tmp σ.fid σ.tmp.length) (o:= .list l) (A0y _) hn
  ⟨its,0,Heap.get?_push_size _ rfl,A0c.mono x0 _ _ hl⟩ (fun j hj=>B6g j hj) (by simp [St.obj])
 have pl:P (.loc σ.fid):=hs.core.al _ _ A1l
 have fr: ∀f,D1n (.tmp σ.fid σ.tmp.length) f→f=σ.fid:=fun f h=>by rcases h with h| ⟨k,h⟩| ⟨k,h⟩|h|h <;> cases h;rfl
 have pin:PInv {σ with tmp:=σ.tmp++ [some (.list l)]} (fun j=>P j∨j= .tmp σ.fid σ.tmp.length):=by
  refine⟨fun k h=>?_,fun n h=>hs.pin.win n (h.imp (fun h=>h.resolve_right (k9 rfl)) fun h=>h.resolve_right (k9 rfl)),fun n v h=>hs.pin.kid n v (h.resolve_right (k9 rfl)),fun h=>hs.pin.tree (h.imp (fun h=>h.resolve_right (k9 rfl)) fun h=>h.resolve_right (k9 rfl)),fun h=>hs.pin.wdic (h.resolve_right (k9 rfl)),fun h=>hs.pin.deck (h.resolve_right (k9 rfl))⟩
  simp only [List.length_append]
  rcases h with h|h
  ·have:=hs.pin.tmp k h;exact Nat.lt_succ_of_lt this
  ·cases h;exact Nat.lt_succ_self _
 obtain ⟨xe,hs'⟩:=hs.addkey hn (fun _ _ e=>e) c ⟨rfl,rfl,rfl,rfl,rfl,rfl,rfl⟩ pin (fun f h=> .inl (.inl (fr f h▸pl))) (fun f k h=>by cases h;rfl)
  (fun f h=>by rw [fr f h];obtain ⟨o,e⟩:=hs.top _ (.inl pl);exact⟨o,k _ _ e⟩) (fun f ⟨o,e⟩=>⟨o,k _ _ e⟩)
 refine B2o _ _ xe hs' ?_
 ·have e:(if Key.tmp σ.fid σ.tmp.length=Key.tmp σ.fid σ.tmp.length then s.heap.objs.size else Φ (.tmp σ.fid σ.tmp.length))=s.heap.objs.size:=if_pos rfl
  have:=C4e (S:=S) (P:=fun j=>P j∨j= .tmp σ.fid σ.tmp.length) (z:=z) (Φ:=fun j=>if j= .tmp σ.fid σ.tmp.length then s.heap.objs.size else Φ j) (k:= .tmp σ.fid σ.tmp.length) (.inr rfl)
  rw [e]at this;exact this
theorem B6s{x:Str}{p' elts lp pos}{Q:AF→St→Prop}(h:W S d r env (RL S) (spliced (backTo lp (starEach elts env))) σ (fun as σ₁=>as.length≤1000∧A9c {σ₁ with tmp:=σ₁.tmp++ [some (.list as)]} x (.ref (.tmp σ₁.fid σ₁.tmp.length)) (Q .next)) X):
  W S d r env (RF S) (exec (.Assign [.Name x p'] (.List elts lp) pos) env) σ Q X:=fun A P z y Φ s hA hs=>by
 refine wpAny_Assign_Name (List_ (h.run hA hs (fun vs s₁ P₁ z₁ Φ₁ σ₁ as x₁ r₁ hs₁ h₁=>wpAny_newObj_type ?_ (by
  have:=A0c.len r₁;have:=h₁.1;show vs.toArray.size≤sizeLine;simp only [List.size_toArray,sizeLine_eq];lia)) fun e s' hx=>hx)) rfl
 refine A1x (hs₁.newtmp (its:=vs.toArray) (by exact r₁)) fun P₂ Φ₂ x₂ hs₂ hv=>A0e h₁.2 fun l' hp hq=>?_
 exact A3b hs₂ hp hv fun s' hs'=>Res.intro (b:= .next) (x₁.trans x₂) A1y hs' hq
theorem A6i{value slice pos}{Q:AV→St→Prop}(h:W S d r env (RV S) (eval value env) σ (fun a σ₁=>W S d r env (RV S) (eval slice env) σ₁ (fun b σ₂=>
   W1 S d r env (R2 S) (RV S) (fun v:Value×Value=>subscriptTail value slice v.1 v.2) (a,b) σ₂ Q X) X) X):W S d r env (RV S) (eval (.Subscript value slice pos) env) σ Q X:=fun A P z y Φ s hA hs=>by
 simp only [eval_Subscript]
 exact wpAny_bind (h.run hA hs (fun v s₁ P₁ z₁ Φ₁ σ₁ a x₁ r₁ hs₁ h₁=>wpAny_bind (wpAny_holding (h₁.run hA hs₁ (fun u s₂ P₂ z₂ Φ₂ σ₂ b x₂ r₂ hs₂ h₂=>wpAny_bind (wpAny_standAt
  (W1.run (v:=(v,u)) h₂ hA hs₂ ⟨A1i.mono x₂.toExt0 _ _ r₁,r₂⟩ (fun c s₃ P₃ z₃ Φ₃ σ₃ g x₃ r₃ hs₃ q=>Res.intro ((x₁.trans x₂).trans x₃) r₃ hs₃ q) fun e s' hx=>hx.ext (x₁.trans x₂)))) fun e s' hx=>hx.ext x₁))) fun e s' hx=>hx)
theorem B6b{l:List AV}{vs:List Value}: ∀{ks:List Int} (_:A0c S P z Φ l vs) (_:ks.length=vs.length) {n:Int} {a:AV},(ks.zip l).lookup n=some a→ ∃v,valueAt (ks.zip vs) n=some v∧A1i S P z Φ a v:=by
 induction l generalizing vs with
 |nil=>intro ks h e n a q;simp at q
 |cons b l ih=>
  intro ks h e n a q
  refine A1x h.uncons fun v rr y9a hv hr=>?_
  obtain rfl:=y9a
  cases ks with
  |nil=>contradiction
  |cons k ks=>
   simp only [List.zip_cons_cons,List.lookup_cons]at q
   unfold valueAt
   simp only [List.zip_cons_cons,List.find?_cons]
   by_cases hk:k=n
   ·subst hk;simp at q;subst q;simp;exact hv
   ·have h1:(n == k)=false:=by simpa using fun e=>hk e.symm
    rw [h1]at q
    refine A0e (ih hr (by simpa using e) q) fun u g1 g2=>A1f u ?_ g2
    unfold valueAt at g1
    simpa [hk]using g1
theorem A9w(t:Tree)(n:Int):((t.wins.map (·.1)).zip (t.wins.map fun p=>AV.ref (.win p.1))).lookup n=(t.get n).map fun _=> .ref (.win n):=by
 unfold Tree.get
 generalize t.wins=l
 induction l with
 |nil=>rfl
 |cons p l ih=>
  simp only [List.map_cons,List.zip_cons_cons,List.lookup_cons]
  by_cases h:n=p.1
  ·obtain ⟨k,w⟩:=p;dsimp only at h;rw [h];simp [List.lookup_cons]
  ·have:(n == p.1)=false:=by simpa using h
   obtain ⟨k,w⟩:=p
   rw [this];dsimp only;simp only [ih,List.lookup_cons,this]
theorem A7d{t:Tree}(h1:σ.tr=some t)(hS:1≤t.stg):σ.obj S .wdic=some (.idic (t.wins.map (·.1)) (t.wins.map fun p=> .ref (.win p.1))):=by simp [St.obj,h1,hS]
theorem Tree.S5.one{t:Tree}(h:t.S5):1≤t.stg:=by rcases h with h|h|h <;> lia
theorem A6q{value slice:Expr}{t:Tree}{n:Int}{w:Win}{Q:AV→St→Prop}(h1:σ.tr=some t)(hS:t.S5)(h2:t.get n=some w)(hsl: ∀o i,subscripted slice false o i=operate [o,i] (getItem o i))(h:Q (.ref (.win n)) σ):
  W1 S d r env (R2 S) (RV S) (fun v:Value×Value=>subscriptTail value slice v.1 v.2) (.ref .wdic,.int n) σ Q X:=fun A P z y Φ s v hA hs hv=>by
 obtain ⟨v1,v2⟩:=v
 refine A0f (A1s hv.1) fun _ e1=>A0i (A0r hv.2) fun t2 e2=>?_
 dsimp only at e1 e2;subst e1 e2
 refine A6d (hs.core.rep _ _ (A7d h1 hS.one)) fun vs _ g1 g2 g3=>?_
 obtain ⟨u,q1,q2⟩:=B6b g3 g2 (n:=n) (a:= .ref (.win n)) (by simp only [A9w,h2];rfl)
 exact tail_any g1.typeIs slot_dict_getitem.lookup (wpAny_getItem_of (intKind_is _ _ n t2) g1.mapOf q1 (Res.of (b:= .ref (.win n)) (hs.tok _) q2 h)) (hsl _ _)
theorem D4t{value slice:Expr}{a b:AV}{l:List AV}{i:Int}{Q:AV→St→Prop}(hl:LA S σ a l)(h0:0≤i)(hi:i<2 ^ 62)(hb:l[i.toNat]? =some b)(hsl: ∀o i,subscripted slice false o i=operate [o,i] (getItem o i))(h:Q b σ):
  W1 S d r env (R2 S) (RV S) (fun v:Value×Value=>subscriptTail value slice v.1 v.2) (a,.int i) σ Q X:=fun A P z y Φ s v hA hs hv=>by
 obtain ⟨v1,v2⟩:=v
 refine A3m (hl.at hs hv.1) fun c its n e1 g1 g2=>A0i (A0r hv.2) fun t2 e2=>?_
 dsimp only at e1 e2;subst e1 e2
 refine A0e (g2.at i.toNat hb) fun u q1 q2=>?_
 rw [Array.getElem?_toList]at q1
 have il:s.heap.IsList c its:=⟨_,g1,rfl,n,rfl⟩
 exact tail_any il.typeIs slot_list_getitem.lookup (wpAny_getItem_list il h0 (by lia) q1 (Res.of (b:=b) hs q2 h)) (hsl _ _)
theorem D4s{value slice:Expr}{b:AV}{l:List AV}{i:Int}{Q:AV→St→Prop}(h0:0≤i)(hi:i<2 ^ 62)(hb:l[i.toNat]? =some b)(hsl: ∀o i,subscripted slice false o i=operate [o,i] (getItem o i))(h:Q b σ):
  W1 S d r env (R2 S) (RV S) (fun v:Value×Value=>subscriptTail value slice v.1 v.2) (.tup l,.int i) σ Q X:=fun A P z y Φ s v hA hs hv=>by
 obtain ⟨v1,v2⟩:=v
 refine A3m (A7p hv.1) fun c its n e1 hz g2=>A0i (A0r hv.2) fun t2 e2=>?_
 dsimp only at e1 e2;subst e1 e2
 refine A0e (g2.at i.toNat hb) fun u q1 q2=>?_
 have hlt:i<its.toList.length:=by have:=(List.getElem?_eq_some_iff.mp q1).1;lia
 exact item_tupleT (t:=c) (l:=its.toList) ⟨_,hs.core.zin _ _ hz,rfl,n,rfl⟩ (by lia) (by lia) (seqIndex_of h0 hlt) q1 (Res.of (b:=b) hs q2 h) (hsl _ _)
theorem D4u{value slice:Expr}{ks:List Int}{b:AV}{l:List AV}{i:Int}{Q:AV→St→Prop}(hb:(ks.zip l).lookup i=some b)(hsl: ∀o i,subscripted slice false o i=operate [o,i] (getItem o i))(h:Q b σ):
  W1 S d r env (R2 S) (RV S) (fun v:Value×Value=>subscriptTail value slice v.1 v.2) (.dic ks l,.int i) σ Q X:=fun A P z y Φ s v hA hs hv=>by
 obtain ⟨v1,v2⟩:=v
 have hv1:=hv.1
 refine B4q (B1b hv1) fun c o vs e1 _ hz hd hk hl=>?_
 try clear hv1
 refine A0i (A0r hv.2) fun t2 e2=>?_
 dsimp only at e1 e2;subst e1 e2
 have g1:s.heap.DictOf (intKind S.prog S.w) c (ks.zip vs):=Heap.dictOf_iff.mpr ⟨o,hs.core.zin _ _ hz,hd⟩
 refine A0e (B6b hl hk hb) fun u q1 q2=>?_
 exact tail_any g1.typeIs slot_dict_getitem.lookup (wpAny_getItem_of (intKind_is _ _ i t2) g1.mapOf q1 (Res.of (b:=b) (hs.tok _) q2 h)) (hsl _ _)
end
section
variable {S:SP} {d:Nat} {r:Bool} {env:Env} {σ:St} {X:St→Prop} {P:Key→Prop} {z:Gh} {y:Gy} {Φ:Key→Addr} {s:Shared}
theorem Sim.settmp(hs:Sim S env σ P z y Φ s){k:Nat}{l l':List AV}(e:σ.tmp[k]? =some (some (.list l))){its:Array Value}{n:Nat}{h':Heap}{tk:Tok}(hk: ∀b o,b≠Φ (.tmp σ.fid k)→s.heap.get? b=some o→h'.get? b=some o)
  (ho:h'.get? (Φ (.tmp σ.fid k))=some ⟨.type "list",none,.seq its n,#[]⟩) (hl:A0c S P z Φ l' its.toList):Sim S env {σ with tmp:=σ.tmp.set k (some (.list l'))} P z y Φ {s with heap:=h',toks:=tk}:=by
 have hlt:k<σ.tmp.length:=(List.getElem?_eq_some_iff.mp e).1
 have ho':σ.obj S (.tmp σ.fid k)=some (.list l):=A1t.mpr ⟨rfl,e⟩
 refine⟨hs.core.set (ob':=({σ with tmp:=σ.tmp.set k (some (.list l'))}:St).obj S) h' tk s.drawn ho' hk (o:= .list l') ⟨its,n,ho,hl⟩ (fun j hj=>B6f hj) (A1t.mpr ⟨rfl,by exact(List.getElem?_set_self hlt)⟩),hs.ok,hs.eok,
  ⟨fun j h=>by simp only [List.length_set];exact hs.pin.tmp j h,hs.pin.win,hs.pin.kid,hs.pin.tree,hs.pin.wdic,hs.pin.deck⟩,hs.fid,hs.loc,fun f hf=>?_,hs.cel,hs.ll,hs.lc⟩
 refine A0i (hs.top f hf) fun o e=>?_
 by_cases q:f=Φ (.tmp σ.fid k)
 ·rw [q];exact⟨_,ho⟩
 ·exact ⟨o,hk f o q e⟩
theorem D1s{l:List AV}{its:Array Value}(h:A0c S P z Φ l its.toList)(hl:l.length≤100000):its.size≤sizeLine:=by have:=h.size;simp only [sizeLine_eq];exact Z9 hl this
theorem B7j{k:Nat}{l:List AV}(hs:Sim S env σ P z y Φ s)(h0:σ.tmp[k]? =some (some (.list l))): ∃its n,s.heap.get? (Φ (.tmp σ.fid k))=some ⟨.type "list",none,.seq its n,#[]⟩∧A0c S P z Φ l its.toList:=
 hs.core.rep _ _ (A1t.mpr ⟨rfl,h0⟩)
theorem list_at'{k:Nat}{l:List AV}{σ₁:St}{P₁ z₁ Φ₁ s₁}(hs:Sim S env σ P z y Φ s)(hp:P (.tmp σ.fid k))(x₁:Ext env.locals y P z Φ P₁ z₁ Φ₁)(hs₁:Sim S env σ₁ P₁ z₁ y Φ₁ s₁)(h0:σ₁.tmp[k]? =some (some (.list l))):
  Φ₁ (.tmp σ₁.fid k)=Φ (.tmp σ.fid k)∧ ∃its n,s₁.heap.get? (Φ (.tmp σ.fid k))=some ⟨.type "list",none,.seq its n,#[]⟩∧A0c S P₁ z₁ Φ₁ l its.toList:=by
 have hf:σ₁.fid=σ.fid:=hs₁.fid.trans hs.fid.symm
 have ea:Φ₁ (.tmp σ₁.fid k)=Φ (.tmp σ.fid k):=by rw [hf];exact x₁.f _ hp
 refine A3w (B7j hs₁ h0) fun its n g1 g2=>?_
 rw [ea]at g1
 exact A8b ea (D0p its n g1 g2)
theorem C5s{pl:Sem Bool}{pos:Pos}{e:Expr}{k:Nat}{l₀:List AV}{Q:AV→St→Prop}(he:starEach [e] env= [(false,eval e env)])(h0:σ.tmp[k]? =some (some (.list l₀)))
  (h:W S d r env (RV S) (eval e env) σ (fun a σ₁=> ∃l,σ₁.tmp[k]? =some (some (.list l))∧l.length≤100000∧Q .none {σ₁ with tmp:=σ₁.tmp.set k (some (.list (l++ [a])))}) X):
  GM S d r env (Str.ofString "append") pl pos [e] (.ref (.tmp σ.fid k)) σ Q X:=fun A P z y Φ s v hA hs hv=>by
 refine A0f (A1s hv) fun hp y9a=>?_
 obtain rfl:=y9a
 refine A3w (B7j hs h0) fun its n g1 g2=>getMethod_builtin (T:= "list") ⟨_,g1,rfl⟩ F.plainAttrs_list F.slot_list_append F.type_list_append (fun a ha=>by cases ha;exact⟨_,g1,rfl⟩) ?_
 rw [he]
 refine _root_.PySem.P.append_list (h.run hA hs (fun u s₁ P₁ z₁ Φ₁ σ₁ a x₁ r₁ hs₁ h₁=>?_) fun e s' hx=>hx)
 refine A2u h₁ fun l q1 q2 q3=>?_
 try clear h₁
 refine A0f (list_at' hs hp x₁ hs₁ q1) fun ea y9a=>A3w y9a fun its₁ n₁ g1' g2₁=>B2o its₁ n₁ (D1s g2₁ q2) g1' (Res.intro (b:= .none) x₁ B6u (hs₁.settmp (tk:=s₁.toks) q1 (its:=its₁.push u) (n:=if(its₁.push u).size == its₁.size then n₁ else n₁+1) (fun b o hb e=>?_) ?_ ?_) q3)
 ·exact (Heap.get?_update_other _ _ (by rw [←ea];exact Ne.symm hb)).trans e
 ·refine (congrArg _ (ea)).trans ?_;exact Heap.get?_update_self _ g1' rfl
 ·simp only [Array.toList_push];exact A0c.app g2₁ (A0c.cons r₁ A0c.nil)
theorem C5r{pl:Sem Bool}{pos:Pos}{e:Expr}{k:Nat}{l₀:List AV}{Q:AV→St→Prop}(he:starEach [e] env= [(false,eval e env)])(h0:σ.tmp[k]? =some (some (.list l₀)))
  (h:W S d r env (RV S) (eval e env) σ (fun a σ₁=> ∃l l₂,a= .lst l₂∧σ₁.tmp[k]? =some (some (.list l))∧l.length≤100000∧l₂.length≤100000∧Q .none {σ₁ with tmp:=σ₁.tmp.set k (some (.list (l++l₂)))}) X):
  GM S d r env (Str.ofString "extend") pl pos [e] (.ref (.tmp σ.fid k)) σ Q X:=fun A P z y Φ s v hA hs hv=>by
 refine A0f (A1s hv) fun hp y9a=>?_
 obtain rfl:=y9a
 refine A3w (B7j hs h0) fun its n g1 g2=>getMethod_builtin (T:= "list") ⟨_,g1,rfl⟩ F.plainAttrs_list F.slot_list_extend F.type_list_extend (fun a ha=>by cases ha;exact⟨_,g1,rfl⟩) ?_
 rw [he]
 refine _root_.PySem.P.extend_list (h.run hA hs (fun u s₁ P₁ z₁ Φ₁ σ₁ a x₁ r₁ hs₁ h₁=>?_) fun e s' hx=>hx)
 refine D0x h₁ fun l l₂ y9a q1 q2 q2' q3=>?_
 try clear h₁
 obtain rfl:=y9a
 refine A0f (list_at' hs hp x₁ hs₁ q1) fun ea y9a=>A3w y9a fun its₁ n₁ g1' g2₁=>A3m (A8h r₁) fun b its₂ n₂ y9a hz hl₂=>?_
 obtain rfl:=y9a
 have z1:=g2₁.size;have z2:=hl₂.size
 refine D0n b its₁ its₂ n₁ n₂ (D1s g2₁ q2) (by rw [sizeLine_eq];lia) ?_ rfl g1' (A8b (hs₁.core.zin _ _ hz) ?_)
 ·have:Builtin.List.listTooLong (its₁.size+its₂.size)=false:=by
   unfold Builtin.List.listTooLong
   refine decide_eq_false ?_
   simp only [sizeLine_eq];lia
  simp only [this,Bool.and_false];decide
 refine Res.intro (b:= .none) x₁ B6u (hs₁.settmp (tk:=s₁.toks) q1 (its:=its₁++its₂) (n:=if(its₁++its₂).size == its₁.size then n₁ else n₁+1) (fun b o hb e=>?_) ?_ ?_) q3
 ·exact (Heap.get?_update_other _ _ (by rw [←ea];exact Ne.symm hb)).trans e
 ·refine (congrArg _ (ea)).trans ?_;exact Heap.get?_update_self _ g1' rfl
 ·simp only [Array.toList_append];exact A0c.app g2₁ hl₂
theorem D2v{pl:Sem Bool}{pos:Pos}{k:Nat}{l:List AV}{a:AV}{Q:AV→St→Prop}(h0:σ.tmp[k]? =some (some (.list (l++ [a]))))(hl:l.length≤100000)(h:Q a {σ with tmp:=σ.tmp.set k (some (.list l))}):
  GM S d r env (Str.ofString "pop") pl pos [] (.ref (.tmp σ.fid k)) σ Q X:=fun A P z y Φ s v hA hs hv=>by
 refine A0f (A1s hv) fun hp y9a=>?_
 obtain rfl:=y9a
 refine A3w (B7j hs h0) fun its n g1 g2=>getMethod_builtin (T:= "list") ⟨_,g1,rfl⟩ F.plainAttrs_list F.slot_list_pop F.type_list_pop (fun a ha=>by cases ha;exact⟨_,g1,rfl⟩) (A1x g2.split fun v1 v2 e r1 r2=>A1x r2.uncons fun u rr y9a hu hr=>?_)
 obtain rfl:=y9a
 have:rr= []:=hr
 subst this
 have hsz:its.size=v1.length+1:=by simp only [←Array.length_toList,e];simp
 have hl1:=r1.len
 have hy:its[its.size-1]? =some u:=by rw [←Array.getElem?_toList,e,hsz];simp
 have he:(its.eraseIdxIfInBounds (its.size-1)).toList=v1:=by
  rw [Array.eraseIdxIfInBounds,dif_pos (by lia),Array.toList_eraseIdx,e,hsz]
  simp [List.eraseIdx_append_of_length_le]
 show wpAny _ A (callWith pos (.builtin "list.pop") [.ref (Φ (.tmp σ.fid k))] [] []) _ _ s
 refine _root_.PySem.P.pop_list g1 hy ?_ (by simp only [sizeLine_eq];lia)
 refine Res.of (b:=a) (hs.settmp (tk:=s.toks) h0 (l':=l) (its:=its.eraseIdxIfInBounds (its.size-1)) (n:=if(its.eraseIdxIfInBounds (its.size-1)).size == its.size then n else n+1) (fun b o hb e=>?_) ?_ ?_) hu h
 ·exact (Heap.get?_update_other _ _ (Ne.symm hb)).trans e
 ·exact Heap.get?_update_self _ g1 rfl
 ·simp only [he];exact r1
theorem C7h{a:AV}{l:List AV}{Q:AV→St→Prop}(hl:LA S σ a l)(h:Q (.bool (!l.isEmpty)) σ):W1 S d r env (R2 S) (RV S) (fun v:Value×Value=>compareOp .NotEq v.1 v.2) (a,.lst []) σ Q X:=fun A P z y Φ s v hA hs hv=>by
 obtain ⟨v1,v2⟩:=v
 refine A3m (hl.at hs hv.1) fun c its n e1 g1 g2=>A3m (A8h hv.2) fun b its₂ n₂ e2 hz hl₂=>?_
 dsimp only at e1 e2;subst e1 e2
 have z1:=g2.size;have z2:=hl₂.size
 have g3:=hs.core.zin _ _ hz
 refine cmp_ofNotEq ?_
 cases l with
 |nil=>
  refine richCompare_meets_room (T:= "list") ⟨_,g1,rfl⟩ ⟨_,g3,rfl⟩ F.slot_list_ne F.entry_list_ne (F.args_list_ne_2 _ _) (SeqAt.list_neAt c b its its₂ n n₂ none none #[] #[] (by simp only [z1,z2]) (fun _=>true)) ⟨g1,g3,fun j h1 h2=>?_,by simp,?_⟩ hA.line
  ·rw [z1]at h1;simp at h1
  ·rw [z1];exact Res.of (b:= .bool false) hs A7i h
 |cons a l=>
  refine richCompare_meets_room (T:= "list") ⟨_,g1,rfl⟩ ⟨_,g3,rfl⟩ F.slot_list_ne F.entry_list_ne (F.args_list_ne_2 _ _) (SeqAt.list_ne_lengthsAt c b its its₂ n n₂ none none #[] #[] (by simp only [z1,z2];rfl)) ⟨g1,g3,by decide,?_⟩ hA.line
  exact Res.of (b:= .bool true) hs A7i h
theorem b_len{a:AV}{l:List AV}{Q:AV→St→Prop}(hl:LA S σ a l)(hb:l.length≤100000)(h:Q (.int l.length) σ):WB S d r env (.builtin "len") [a] σ Q X:=fun A P z y Φ s vs hA hs hv=>by
 refine A1x hv.uncons fun v rr y9a hv1 hr=>?_
 obtain rfl:=y9a
 have:rr= []:=hr
 subst this
 refine A3m (hl.at hs hv1) fun c its n y9a g1 g2=>?_
 obtain rfl:=y9a
 have z1:=g2.size
 refine len_list (items:=its) ⟨_,g1,rfl,n,rfl⟩ (by lia) (Res.of (b:= .int l.length) (hs.tok _) ?_ h)
 rw [z1];exact B5f
theorem C9m{value:Expr}{p1 p2 p3 pos:Pos}{k:Nat}{Q:AV→St→Prop}(h:W S d r env (RV S) (eval value env) σ (fun a σ₁=> ∃l,LA S σ₁ a l∧l.length≤100000∧Q (.lst l.reverse) σ₁) X):
  W S d r env (RV S) (eval (.Subscript value (.Slice none none (some (.UnaryOp .USub (.Constant (.int 1) k p1) p2)) p3) pos) env) σ Q X:=fun A P z y Φ s hA hs=>by
 simp only [eval_Subscript]
 refine wpAny_bind (h.run hA hs (fun v s₁ P₁ z₁ Φ₁ σ₁ a x₁ r₁ hs₁ h₁=>?_) fun e s' hx=>hx)
 refine A2u h₁ fun l hl hb hq=>?_
 try clear h₁
 refine A3m (hl.at hs₁ r₁) fun c its n y9a g1 g2=>?_
 obtain rfl:=y9a
 have z1:=g2.size
 refine wpAny_bind (wpAny_holding ?_)
 show wpAny _ A (do
  let l ←(pure .none:Sem Value)
  let u ←holding [l] (pure .none:Sem Value)
  let st ←holding [l,u] (eval (.UnaryOp .USub (.Constant (.int 1) k p1) p2) env)
  newFields "slice" [l,u,st]) _ _ _
 refine wpAny_bind (wpAny_pure (wpAny_bind (wpAny_holding (wpAny_pure (wpAny_bind (wpAny_holding (UnaryOp_ (wpAny_Constant_int (PySem.P.neg_int ?_)))))))))
 unfold newFields
 refine wpAny_newObj_type ?_
 have hs₂:=(hs₁.grow (s₁.heap.push {cls:= .type "slice",data:= .fields [.none,.none,.int (-1) (s₁.toks+1)].toArray}) (s₁.toks+2) s₁.drawn (fun _ _ e=>Heap.get?_push_of_some _ e))
 have g1':=Heap.get?_push_of_some (h:=s₁.heap) {cls:= .type "slice",data:= .fields [.none,.none,.int (-1) (s₁.toks+1)].toArray} g1
 refine wpAny_bind (wpAny_standAt ?_)
 refine tail_any (T:= "list") ⟨_,g1',rfl⟩ slot_list_getitem.lookup (ops:= [.ref c,.ref s₁.heap.objs.size]) (wpAny_getItem_list_slice (items:=its) (lo:=none) (hi:=none) (st:=some (-1)) ⟨_,g1',rfl,n,rfl⟩ (Heap.IsSliceOf.new _ _ _ _) ?_ ?_ ?_ (by decide) ?_ (by simp only [sizeLine_eq];exact Z9 hb z1)) rfl
 ·exact .none
 ·exact .none
 ·exact .int _ _
 ·refine Res.ext x₁ (A7v (s:={s₁ with heap:=s₁.heap.push {cls:= .type "slice",data:= .fields [.none,.none,.int (-1) (s₁.toks+1)].toArray},toks:=s₁.toks+2}) hs₂ ?_ hq)
  rw [krv_pick]
  have rev: ∀(l:List AV) (vs:List Value),A0c S P₁ z₁ Φ₁ l vs→A0c S P₁ z₁ Φ₁ l.reverse vs.reverse:=by
   intro l
   induction l with
   |nil=>intro vs h;obtain rfl:=A4z h;exact A0c.nil
   |cons a l ih=>intro vs h;obtain ⟨v,rr,rfl,hv,hr⟩:=h.uncons;simp only [List.reverse_cons,List.reverse_cons];exact A0c.app (ih _ hr) (A0c.cons hv A0c.nil)
  simpa using rev l its.toList g2
end
theorem tcw(C:Addr)(l:List Value)(kw:List (Str×Value)):(Code.builtin "type.__call__" ⟨.ref C::l,kw⟩).weight=1:=by with_unfolding_all rfl
theorem tcu(as:Args):(Code.builtin "type.__call__" as).cUnits=1:=by with_unfolding_all rfl
theorem tce(as:Args):(Code.builtin "type.__call__" as).envs= []:=by with_unfolding_all rfl
theorem AOK.under_tc{d:Nat}{r:Bool}{env:Env}{y:Gy}{A:Around}{C:Addr}{l:List Value}{kw:List (Str×Value)}(h:AOK (d+1) r env y A):AOK d r env y (A.under (.builtin "type.__call__" ⟨.ref C::l,kw⟩)):=
 ⟨h.h,by have:=h.dep;show A.depth+ (Code.builtin "type.__call__" ⟨.ref C::l,kw⟩).weight+d≤900;rw [tcw];exact Z3 this,
 by have:=h.uni;show A.units+ (Code.builtin "type.__call__" ⟨.ref C::l,kw⟩).cUnits+20*d≤9000;rw [tcu];exact Z0 this,
 fun q=>let ⟨e,outer,f,g⟩:=h.fr q;⟨e,outer,by show pushEnvs (Code.builtin "type.__call__" ⟨.ref C::l,kw⟩).envs A.frames=_;rw [tce];exact f,g⟩⟩
section
variable {S:SP} {d:Nat} {r:Bool} {env:Env} {σ σ':St} {X:St→Prop} {P P':Key→Prop} {z z':Gh} {y:Gy} {Φ Φ':Key→Addr} {s s':Shared}
theorem Sim.addkeys(hs:Sim S env σ P z y Φ s)(x:Ext0 P z Φ P' z' Φ')(c:Core S (σ'.obj S) P' z' y Φ' s')
  (e:σ'.fid=σ.fid∧σ'.cfid=σ.cfid∧σ'.nam=σ.nam∧σ'.cnm=σ.cnm∧σ'.glb=σ.glb∧σ'.loc.length=σ.loc.length∧σ'.cel.length=σ.cel.length) (pin:PInv σ' P')
  (hA: ∀f,Pf P' f→Pf P f∨(y f=none∧ ∃o,s'.heap.get? f=some o)) (hB: ∀f k,P' (.tmp f k)→P (.tmp f k)∨f=σ.fid) (hl: ∀f,(∃o,s.heap.get? f=some o)→ ∃o,s'.heap.get? f=some o):
  Ext env.locals y P z Φ P' z' Φ'∧Sim S env σ' P' z' y Φ' s':=by
 refine B8a e fun e1 e2 e3 e4 e5 y9a=>?_
 try clear e
 refine A0f y9a fun e6 e7=>?_
 have pl:P (.loc σ.fid):=hs.core.al _ _ A1l
 refine⟨⟨x,fun f k hf h=>(hB f k h).imp id fun h=>absurd (h.trans hs.fid) hf,fun f h=>(hA f h).imp id fun h=>h.1⟩,c,hs.ok,?_,pin,e1.trans hs.fid,?_,fun f h=>?_,fun i x' hx=>?_,by simp only [e6,e3];exact hs.ll,by simp only [e7,e4];exact hs.lc⟩
 ·simp only [e3,e4,e5];exact hs.eok
 ·rw [e1,x.f _ pl];exact hs.loc
 ·rcases hA f h with h| ⟨_,h⟩
  ·exact hl f (hs.top f h)
  ·exact h
 ·rw [e4]at hx;rw [e2]
  have hi:i<σ.cel.length:=by simp only [hs.lc];exact(List.getElem?_eq_some_iff.mp hx).1
  have:P (.cel σ.cfid i):=hs.core.al _ _ (A2e.mpr ⟨rfl,_,List.getElem?_eq_getElem hi,rfl⟩)
  rw [x.f _ this];exact hs.cel i x' hx
theorem C9h{ob ob':Key→Option CO}{k dk:Key}{C:Addr}{m:List (Str×AV)}{f:Str}{a:AV}{A}{v:Value}{E:Value→Shared→Prop}{K:Unit→Shared→Prop}(c:Core S ob P z y Φ s)(kin:S.K.In s.heap){ak:Addr}(hak:Φ k=ak)(h1:ob k=some (.inst C dk))(h2:ob dk=some (.ns m))(hf:B2l S.K C f=true)
  (hv:A1i S P z Φ a v) (hl:m.length≤50) (ho: ∀j,j≠dk→ob' j=ob j) (hod:ob' dk=some (.ns (A8m f a m)))
  (k': ∀s',Core S ob' P z y Φ s'→(∀b,(∃o,s.heap.get? b=some o)→ ∃o,s'.heap.get? b=some o)→K () s'):wpAny (model S.prog S.w) A (setAttr (.ref ak) f v) K E s:=by
 subst hak
 refine A0f (c.rep _ _ h1) fun g1 g2=>A3w (c.rep _ _ h2) fun es n g3 g4=>?_
 have hlen:=B7q g4
 refine C4m kin g1 g3 hf (B9t f g4) (by exact Z1 hl hlen) fun h' e1 e2=>k' _ ?_ fun b ⟨o,e⟩=>by
  by_cases q:b=Φ dk
  ·rw [q];exact⟨_,e1⟩
  ·exact ⟨_,e2 b o q e⟩
 exact c.set h' _ s.drawn h2 e2 (o:= .ns (A8m f a m)) ⟨_,_,e1,C2a hv g4⟩ ho hod
noncomputable def Win.new(sort parent:Int):Win:=
 {sort:=sort,parent:=parent,left:=0,top:=0,width:=0,height:=0,buf:=0,start:=1,point:=1,hscroll:=0,use:=0,kids:= [],ded:=false,ver:=0,ear:= .lst [],lat:= .lst []}
theorem A1u{n m:Int}{k:Nat}{w:Win}(hn:σ.tr.bind (·.get n)=none):({σ with nw:=some (n,k,w)}:St).find m=if m=n then some (k,w)else(σ.tr.bind (·.get m)).map fun w=>(16,w):=by
 by_cases q:m=n
 ·subst q;simp [St.find,hn]
 ·refine Eq.trans ?_ (if_neg q).symm
  simp only [St.find]
  cases e:σ.tr.bind (·.get m)with
  |none=>simp [q]
  |some w=>rfl
theorem A6s{m:Int}(h:σ.nw=none):σ.find m=(σ.tr.bind (·.get m)).map fun w=>(16,w):=by
 simp only [St.find,h]
 cases e:σ.tr.bind (·.get m) <;> rfl
theorem A2h{n m:Int}{k:Nat}{w:Win}(h0:σ.nw=some (n,k,w))(hn:σ.tr.bind (·.get n)=none):σ.find m=if m=n then some (k,w)else(σ.tr.bind (·.get m)).map fun w=>(16,w):=by
 have:=A1u (σ:=σ) (m:=m) (k:=k) (w:=w) hn
 rw [←this,show({σ with nw:=some (n,k,w)}:St)=σ from by exact(h0).symm▸rfl]
theorem B3y(h:Heap):h.get? (h.objs.size+1)=none:=Heap.get?_none_of_le (Nat.le_succ _)
theorem D1o{n sort parent:Int}{fI:Addr}{Q:AV→St→Prop}(hmk:makesIn S.K S.CW=true)(hi:findIn S.K (.ref S.CW) "__init__"=some (some (.ref fI)))(hf:isFn S.K (.ref fI)=true)
  (hn:σ.tr.bind (·.get n)=none) (h0:σ.nw=none)
  (h:WC S d r env fI [.ref (.win n),.int n,.int sort,.int parent] {σ with nw:=some (n,0,Win.new sort parent)} (fun a σ'=>a= .none∧Q (.ref (.win n)) σ') X):
  WC S (d+1) r env S.CW [.int n,.int sort,.int parent] σ Q X:=fun A P z y Φ s vs hA hs hv=>by
 have kin:=hs.kin
 have f0:σ.find n=none:=by rw [A6s h0,hn];rfl
 have p1: ¬P (.winD n):=fun h=>by obtain ⟨p,e⟩:=hs.pin.win n (.inr h);rw [f0]at e;exact k1 e
 have p2: ¬P (.win n):=fun h=>by obtain ⟨p,e⟩:=hs.pin.win n (.inl h);rw [f0]at e;exact k1 e
 have hm:=makes_of (M:=model S.prog S.w) kin hmk
 obtain ⟨hh,g,dr,tk,os⟩:=s
 have k1: ∀a o,hh.get? a=some o→(hh.push emptyDict).get? a=some o:=fun _ _ e=>Heap.get?_push_of_some _ e
 have k2: ∀a o,(hh.push emptyDict).get? a=some o→((hh.push emptyDict).push (instObj S.CW hh.objs.size)).get? a=some o:=fun _ _ e=>Heap.get?_push_of_some _ e
 have sz:(hh.push emptyDict).objs.size=hh.objs.size+1:=Heap.size_push _ _
 obtain ⟨c1,x1⟩:=hs.core.alloc (ob':=fun j=>if j= .winD n then some (.ns [])else σ.obj S j) (hh.push emptyDict) tk dr k1 (b:=hh.objs.size) (q:= .winD n) (o:= .ns []) (A0y hh) p1
  ⟨[],0,Heap.get?_push_size _ rfl,rfl⟩ (fun j hj=>if_neg hj) (if_pos rfl)
 have obj2: ∀j,j≠ .win n→({σ with nw:=some (n,0,Win.new sort parent)}:St).obj S j=if j= .winD n then some (.ns [])else σ.obj S j:=fun j hj=>by
  cases j with
  |winD m=>
   by_cases q:m=n
   ·subst q;simp only [St.obj,A1u hn,if_pos];rfl
   ·refine Eq.trans ?_ (if_neg (by simpa using q)).symm;simp only [St.obj,A1u hn,if_neg q,A6s h0]
  |win m=>
   have q:m≠n:=fun e=>hj (by exact congrArg _ (e))
   rw [if_neg (k9 rfl)];simp only [St.obj,A1u hn,if_neg q,A6s h0]
  |kid m v=>
   refine Eq.trans ?_ (if_neg (k9 rfl)).symm
   by_cases q:m=n
   ·subst q;simp only [St.obj,A1u hn,if_pos,f0];rfl
   ·simp only [St.obj,A1u hn,if_neg q,A6s h0]
  |_=>refine Eq.trans ?_ (if_neg (k9 rfl)).symm;rfl
 obtain ⟨c2,x2⟩:=c1.alloc (ob':=({σ with nw:=some (n,0,Win.new sort parent)}:St).obj S) ((hh.push emptyDict).push (instObj S.CW hh.objs.size)) tk dr k2 (b:=hh.objs.size+1) (q:= .win n) (o:= .inst S.CW (.winD n))
  (by refine(congrArg _ (sz).symm).trans ?_;exact A0y _) (fun h=>h.elim p2 (k9 rfl)) ⟨by
   dsimp only;rw [if_neg (k9 rfl),if_pos rfl,←sz];exact Heap.get?_push_size _ rfl,.inl (.inr rfl)⟩ obj2 (by
   simp only [St.obj,A1u hn,if_pos];rfl)
 have pin:PInv {σ with nw:=some (n,0,Win.new sort parent)} (fun j=>(P j∨j= .winD n)∨j= .win n):=by
  have old: ∀j,(P j∨j= .winD n)∨j= .win n→j≠ .winD n→j≠ .win n→P j:=fun j h h1 h2=>h.elim (fun h=>h.elim id fun h=>absurd h h1) fun h=>absurd h h2
  refine⟨fun k h=>hs.pin.tmp k (old _ h (k9 rfl) (k9 rfl)),fun m h=>?_,fun m v h=>?_,fun h=>hs.pin.tree (h.imp (fun h=>old _ h (k9 rfl) (k9 rfl)) fun h=>old _ h (k9 rfl) (k9 rfl)),fun h=>hs.pin.wdic (old _ h (k9 rfl) (k9 rfl)),fun h=>hs.pin.deck (old _ h (k9 rfl) (k9 rfl))⟩
  ·by_cases q:m=n
   ·exact ⟨_,by exact((A1u hn).trans (if_pos q))⟩
   ·refine A0i (hs.pin.win m (h.imp (fun h=>old _ h (k9 rfl) (by simpa using q)) fun h=>old _ h (by simpa using q) (k9 rfl))) fun p e=>?_
    exact⟨p,by refine(((A1u hn).trans (if_neg q)).trans (A6s h0).symm).trans ?_;exact e⟩
  ·refine A0e (hs.pin.kid m v (old _ h (k9 rfl) (k9 rfl))) fun p e e2=>?_
   by_cases q:m=n
   ·subst q;rw [f0]at e;exact k13 e rfl
   ·exact A1f p (by refine(((A1u hn).trans (if_neg q)).trans (A6s h0).symm).trans ?_;exact e) e2
 have fr: ∀f,Pf (fun j=>(P j∨j= .winD n)∨j= .win n) f→Pf P f:=fun f h=>by
  rcases h with h| ⟨k,h⟩| ⟨k,h⟩|h|h <;> rcases h with(h|h)|h <;> first| (contradiction;done)|skip
  ·exact .inl h
  ·exact .inr (.inl ⟨k,h⟩)
  ·exact .inr (.inr (.inl ⟨k,h⟩))
  ·exact .inr (.inr (.inr (.inl h)))
  ·exact .inr (.inr (.inr (.inr h)))
 obtain ⟨xe,hs'⟩:=hs.addkeys (x1.trans x2) c2 ⟨rfl,rfl,rfl,rfl,rfl,rfl,rfl⟩ pin (fun f h=> .inl (fr f h)) (fun f k h=>by rcases h with(h|h)|h <;> first|exact .inl h|contradiction) (fun f ⟨o,e⟩=>⟨o,k2 _ _ (k1 _ _ e)⟩)
 refine make_core hm (looks_findIn kin hi) (fun self=>bind_fn kin self (beq_iff_eq.mp hf)) (.inl rfl) (codeAny_mono (h _ _ _ y _ _ (.ref (hh.objs.size+1)::vs) hA.under_tc hs' (A0c.cons ?_ (A0c.mono (x1.trans x2) _ _ hv))) fun rr s' hr=>?_)
 ·have:=C4e (S:=S) (P:=fun j=>(P j∨j= .winD n)∨j= .win n) (z:=z) (Φ:=fun j=>if j= .win n then hh.objs.size+1 else if j= .winD n then hh.objs.size else Φ j) (k:= .win n) (.inr rfl)
  rw [show(if Key.win n= .win n then hh.objs.size+1 else if Key.win n= .winD n then hh.objs.size else Φ (.win n))=hh.objs.size+1 from if_pos rfl]at this
  exact this
 ·cases rr with
  |error e=>exact(show A9p S env _ _ y _ X e s' from hr).ext xe
  |ok f=>
   cases f with
   |ret v=>
    refine Res.el (hr:Res S env (RV S) _ _ y _ _ v s') fun P' z' Φ' σ' b x hr hs' h9=>?_
    obtain ⟨rfl,hq⟩:=h9
    refine A8b (A7z hr) (C5o P' z' Φ' σ' (.ref (.win n)) (xe.trans x) ?_ hs' hq)
    have pw:P' (.win n):=x.p _ (.inr rfl)
    have:=C4e (S:=S) (z:=z') (Φ:=Φ') pw
    rwa [x.f _ (.inr rfl),show(if Key.win n= .win n then hh.objs.size+1 else if Key.win n= .winD n then hh.objs.size else Φ (.win n))=hh.objs.size+1 from if_pos rfl]at this
   |_=>exact(hr:False).elim
end
section
variable {S:SP} {d:Nat} {r:Bool} {env:Env} {σ σ':St} {X:St→Prop} {P P':Key→Prop} {z z':Gh} {y:Gy} {Φ Φ':Key→Addr} {s s':Shared}
theorem B7h{n:Int}{k:Nat}{w:Win}(hf:σ.find n=some (k,w))(hk:k<16):σ.tr.bind (·.get n)=none:=by
 cases e:σ.tr.bind (·.get n)with
 |none=>rfl
 |some w'=>unfold St.find at hf;rw [e]at hf;simp at hf;lia
theorem C0x{n:Int}{k:Nat}{w:Win}(hf:σ.find n=some (k,w))(hk:k<16):σ.nw=some (n,k,w):=by
 have e:=B7h hf hk
 unfold St.find at hf;rw [e]at hf
 cases q:σ.nw with
 |none=>rw [q]at hf;exact k1 hf
 |some p=>
  rw [q]at hf;dsimp only at hf
  by_cases h:n=p.1
  ·rw [if_pos h]at hf;have:=Option.some.inj hf;obtain ⟨a,b⟩:=p;dsimp only at h this;rw [h,this]
  ·rw [if_neg h]at hf;exact k1 hf
theorem C4x{n:Int}{k k':Nat}{w w':Win}(hf:σ.find n=some (k,w))(hk:k<16)(hv:w'.ver=w.ver)(hk':k≤k')(p:PInv σ P):PInv {σ with nw:=some (n,k',w')} P:=by
 have hn:=B7h hf hk
 have h0:=C0x hf hk
 refine⟨p.tmp,fun m h=>?_,fun m v h=>?_,p.tree,p.wdic,p.deck⟩
 ·simp only [A1u hn];obtain ⟨q,e⟩:=p.win m h;rw [A2h h0 hn]at e
  by_cases hm:m=n
  ·exact ⟨_,if_pos hm⟩
  ·rw [if_neg hm]at e;exact⟨_,(if_neg hm).trans e⟩
 ·simp only [A1u hn];obtain ⟨q,e,e2,e3⟩:=p.kid m v h;rw [A2h h0 hn]at e
  by_cases hm:m=n
  ·rw [if_pos hm]at e;cases e;exact⟨_,if_pos hm,Nat.le_trans e2 hk',by simp only [hv];exact e3⟩
  ·rw [if_neg hm]at e;exact⟨_,(if_neg hm).trans e,e2,e3⟩
theorem D5v{n:Int}{k:Nat}{w:Win}{f:Str}{a:AV}{Q:Unit→St→Prop}(hf:σ.find n=some (k,w))(hk:k<16)(h3:k≠3)(hw:f∈A7u)(hp:A8m f a ((w.fields n).take k)=(w.fields n).take (k+1))
  (h:Q () {σ with nw:=some (n,k+1,w)}):W1 S d r env (R2 S) RU (fun v:Value×Value=>setAttr v.1 f v.2) (.ref (.win n),a) σ Q X:=fun A P z y Φ s v hA hs hv2=>by
 obtain ⟨v1,v2⟩:=v
 refine A0f (A1s hv2.1) fun _ e1=>?_
 have e1:v1= .ref (Φ (.win n)):=e1
 subst e1
 have hn:=B7h hf hk
 have h0:=C0x hf hk
 refine C1s (σ':={σ with nw:=some (n,k+1,w)}) hs (C1u hf) (B0o hf) (hs.ok.ws f hw) hv2.2 (by rw [List.length_take];exact Nat.le_trans (Nat.min_le_right _ _) (by show(16:Nat)≤50;exact Nat.le_of_ble_eq_true rfl)) (fun j hj=>?_) (by
   simp only [St.obj,A1u hn,if_pos,Option.map_some];rw [hp]) fun s' hc hl=>
  Res.of (b:=()) ⟨hc,hs.ok,hs.eok,C4x hf hk rfl (Nat.le_succ _) hs.pin,hs.fid,hs.loc,fun f hf=>hl _ (hs.top f hf),hs.cel,hs.ll,hs.lc⟩ trivial h
 cases j with
 |win m=>simp only [St.obj,A1u hn,A2h h0 hn];by_cases q:m=n <;> simp [q]
 |winD m=>have q:m≠n:=fun e=>hj (by exact congrArg _ (e));simp only [St.obj,A1u hn,A2h h0 hn,if_neg q]
 |kid m v=>
  simp only [St.obj,A1u hn,A2h h0 hn]
  by_cases q:m=n
  ·simp only [q,if_true,Option.bind_some]
   have:(4≤k+1)=(4≤k):=by apply propext;lia
   simp only [this]
  ·simp [q,if_false]
 |_=>rfl
theorem B3z{x:Str}{xp:Pos}{a:AV}{A:Around}{E:Value→Shared→Prop}{K:Value→Shared→Prop}(hs:Sim S env σ P z y Φ s)(hx:Has σ.nam σ.loc x a)(h: ∀v,A1i S P z Φ a v→K v s):wpAny (model S.prog S.w) A (eval (.Name x xp) env) K E s:=by
 refine A0e hs.locals fun mm hn hm=>A0e (hm x a hx) fun v hv hr=>A0f (hs.eok.kloc x hx.mem) fun k1 k2=>?_
 exact wpAny_Name (wpAny_loadName_local hs.eok.kfun k1 hn hv (h v hr)) k2
theorem B6x{n:Int}{k:Nat}{w:Win}{v':Nat}{ks:List Int}{b:Addr}{A}{E:Value→Shared→Prop}{K:Unit→Shared→Prop}(hs:Sim S env σ P z y Φ s)(hf:σ.find n=some (k,w))
  (hb: ∃its nn,s.heap.get? b=some ⟨.type "list",none,.seq its nn,#[]⟩∧A0c S P z Φ (ks.map .int) its.toList) (hz:z b=none) (hy:y b=none) (hD: ∀j o,σ'.obj S j=some o→j≠ .kid n v'→j≠ .winD n→σ.obj S j=some o∧Φ j≠b) (hbD:Φ (.winD n)≠b)
  (hkid:σ'.obj S (.kid n v')=some (.list (ks.map .int))) (hwD:σ'.obj S (.winD n)=some (.ns (A8m (Str.ofString "children") (.ref (.kid n v')) ((w.fields n).take k)))) (hww:σ'.obj S (.win n)=some (.inst S.CW (.winD n))) (hq: ¬P (.kid n v'))
  (e:σ'.fid=σ.fid∧σ'.cfid=σ.cfid∧σ'.nam=σ.nam∧σ'.cnm=σ.cnm∧σ'.glb=σ.glb∧σ'.loc.length=σ.loc.length∧σ'.cel.length=σ.cel.length) (pin:PInv σ' (fun j=>P j∨j= .kid n v'))
  (h: ∀s' P' Φ',Ext env.locals y P z Φ P' z Φ'→Sim S env σ' P' z y Φ' s'→K () s'):wpAny (model S.prog S.w) A (setAttr (.ref (Φ (.win n))) (Str.ofString "children") (.ref b)) K E s:=by
 refine A3w hb fun its nn hb1 hb2=>?_
 try clear hb
 have x0:Ext0 P z Φ (fun j=>P j∨j= .kid n v') z (fun j=>if j= .kid n v' then b else Φ j):=⟨fun _ h=> .inl h,fun _ _ e=>e,fun j hj=>if_neg (fun q:j= .kid n v'=>hq (by rw [←q];exact hj))⟩
 obtain ⟨c,x⟩:=hs.core.newkey (ob':=fun j=>if j= .winD n then some (.ns ((w.fields n).take k))else σ'.obj S j) (b:=b) (q:= .kid n v') (o:= .list (ks.map .int)) hq hz hy ⟨its,nn,hb1,A0c.mono x0 _ _ hb2⟩ (fun j o hj q=>by
   by_cases hjd:j= .winD n
   ·subst hjd;rw [if_pos rfl]at q;cases q;exact⟨B0o hf,hbD⟩
   ·rw [if_neg hjd]at q;exact hD j o q hj hjd) (by refine(if_neg (k9 rfl)).trans ?_;exact hkid)
 have kk:(fun j=>if j=Key.kid n v' then b else Φ j) (.win n)=Φ (.win n):=if_neg (k9 rfl)
 refine C9h c hs.kin (k:= .win n) kk (dk:= .winD n) (ob':=σ'.obj S) (by refine(if_neg (k9 rfl)).trans ?_;exact hww) (if_pos rfl) (hs.ok.ws _ (by decide)) (a:= .ref (.kid n v')) ?_ (by rw [List.length_take];exact Nat.le_trans (Nat.min_le_right _ _) (by show(16:Nat)≤50;exact Nat.le_of_ble_eq_true rfl))
  (fun j hj=>(if_neg hj).symm) hwD fun s' hc hl=>?_
 ·have:=C4e (S:=S) (P:=fun j=>P j∨j= .kid n v') (z:=z) (Φ:=fun j=>if j= .kid n v' then b else Φ j) (k:= .kid n v') (.inr rfl)
  rwa [show(if Key.kid n v'= .kid n v' then b else Φ (.kid n v'))=b from if_pos rfl]at this
 ·obtain ⟨xe,hs'⟩:=hs.addkeys x hc e pin (fun f h=> .inl (by
   rcases h with h| ⟨k,h⟩| ⟨k,h⟩|h|h <;> rcases h with h|h <;> first| (contradiction;done)|skip
   ·exact .inl h
   ·exact .inr (.inl ⟨k,h⟩)
   ·exact .inr (.inr (.inl ⟨k,h⟩))
   ·exact .inr (.inr (.inr (.inl h)))
   ·exact .inr (.inr (.inr (.inr h))))) (fun f k h=> .inl (h.resolve_right (k9 rfl))) hl
  exact h _ _ _ xe hs'
theorem C9p{x:Str}{xp fp lp pos:Pos}{n:Int}{w:Win}{Q:AF→St→Prop}(hx:Has σ.nam σ.loc x (.ref (.win n)))(hf:σ.find n=some (3,w))(hw:w.kids= []∧w.ver=0)(h:Q .next {σ with nw:=some (n,4,w)}):
  W S d r env (RF S) (exec (.Assign [.Attribute (.Name x xp) (Str.ofString "children") fp] (.List [] lp) pos) env) σ Q X:=fun A P z y Φ s hA hs=>by
 refine plainObj_wpAny_Assign_Attribute (List_ (spliced_nil (wpAny_newObj_type ?_ (by show(0:Nat)≤_;exact Nat.le_of_ble_eq_true rfl)))) rfl
 have hs₁:=hs.grow (s.heap.push {cls:= .type "list",data:= .seq #[]}) s.toks s.drawn (fun _ _ e=>Heap.get?_push_of_some _ e)
 have nb:=A0y s.heap
 refine A1a (hs.off nb) fun o1 o2 o3=>?_
 have hn:=B7h hf (Nat.le_of_ble_eq_true rfl)
 have h0:=C0x hf (Nat.le_of_ble_eq_true rfl)
 refine A0f hw fun hw1 hw2=>?_
 try clear hw
 refine B3z hs₁ hx fun v hv=>A0f (A1s hv) fun pw y9a=>?_
 obtain rfl:=y9a
 refine B6x (σ':={σ with nw:=some (n,4,w)}) (v':=0) (ks:= []) hs₁ hf ⟨#[],0,Heap.get?_push_size _ rfl,A0c.nil⟩ o1 o2 (fun j o q h1 h2=>?_) (o3 _ _ (B0o hf)) ?_ ?_ ?_ (fun hp=>?_) ⟨rfl,rfl,rfl,rfl,rfl,rfl,rfl⟩ ?_ fun s' P' Φ' x hs'=>Res.intro (b:= .next) x A1y hs' h
 ·have:σ.obj S j=some o:=by
   cases j with
   |win m=>simp only [St.obj,A1u hn,A2h h0 hn]at q ⊢;by_cases hm:m=n <;> simpa [hm]using q
   |winD m=>have hm:m≠n:=fun e=>h2 (by exact congrArg _ (e));simpa only [St.obj,A1u hn,A2h h0 hn,if_neg hm]using q
   |kid m v=>
    simp only [St.obj,A1u hn,A2h h0 hn]at q ⊢
    by_cases hm:m=n
    ·subst hm
     simp only [if_true,Option.bind_some]at q
     split at q
     ·rename_i hh;exact absurd (by rw [←hh.2,hw2]) h1
     ·exact k1 q
    ·simpa only [if_neg hm]using q
   |_=>exact q
  exact⟨this,o3 _ _ this⟩
 ·simp only [St.obj,A1u hn,if_true,Option.bind_some,hw2,hw1];rfl
 ·simp only [St.obj,A1u hn,if_true,Option.map_some]
  have: ∀w:Win,w.ver=0→(w.fields n).take 4=A8m (Str.ofString "children") (.ref (.kid n 0)) ((w.fields n).take 3):=fun w e=>by
   unfold Win.fields;simp only [e];rfl
  exact(this w hw2)▸rfl
 ·simp [St.obj,A1u hn,if_true,Option.map_some]
 ·obtain ⟨p,e,e2,_⟩:=hs.pin.kid n 0 hp;rw [hf]at e;cases e;lia
 ·have:=C4x (k':=4) (w':=w) hf (Nat.le_of_ble_eq_true rfl) rfl (Nat.le_of_ble_eq_true rfl) hs.pin
  refine⟨fun k h=>this.tmp k (h.resolve_right (k9 rfl)),fun m h=>this.win m (h.imp (fun h=>h.resolve_right (k9 rfl)) fun h=>h.resolve_right (k9 rfl)),fun m v h=>?_,fun h=>this.tree (h.imp (fun h=>h.resolve_right (k9 rfl)) fun h=>h.resolve_right (k9 rfl)),fun h=>this.wdic (h.resolve_right (k9 rfl)),fun h=>this.deck (h.resolve_right (k9 rfl))⟩
  rcases h with h|h
  ·exact this.kid m v h
  ·cases h;exact⟨(4,w),by exact((A1u hn).trans (if_pos rfl)),Nat.le_refl _,Nat.zero_le _⟩
end
section
variable {S:SP} {d:Nat} {r:Bool} {env:Env} {σ σ':St} {X:St→Prop} {P P':Key→Prop} {z z':Gh} {y:Gy} {Φ Φ':Key→Addr} {s s':Shared} {t:Tree} {n:Int} {w:Win}
theorem Sim.setobj(hs:Sim S env σ P z y Φ s){q:Key}{o₀ o:CO}{oo:Obj}{h':Heap}{tk:Tok}(hq:σ.obj S q=some o₀)(hk: ∀b o,b≠Φ q→s.heap.get? b=some o→h'.get? b=some o)(hl:h'.get? (Φ q)=some oo)
  (ho:C3n S P z Φ h' (Φ q) o) (hob: ∀j,j≠q→σ'.obj S j=σ.obj S j) (hobq:σ'.obj S q=some o)
  (e:σ'.fid=σ.fid∧σ'.cfid=σ.cfid∧σ'.nam=σ.nam∧σ'.cnm=σ.cnm∧σ'.glb=σ.glb∧σ'.loc.length=σ.loc.length∧σ'.cel.length=σ.cel.length) (pin:PInv σ' P):Sim S env σ' P z y Φ {s with heap:=h',toks:=tk}:=by
 refine B8a e fun e1 e2 e3 e4 e5 y9a=>?_
 try clear e
 refine A0f y9a fun e6 e7=>⟨hs.core.set h' tk s.drawn hq hk ho hob hobq,hs.ok,by simp only [e3,e4,e5];exact hs.eok,pin,e1.trans hs.fid,by rw [e1];exact hs.loc,fun f hf=>?_,fun i x hx=>by rw [e2];rw [e4]at hx;exact hs.cel i x hx,by simp only [e6,e3];exact hs.ll,by simp only [e7,e4];exact hs.lc⟩
 refine A0i (hs.top f hf) fun o e=>?_
 by_cases h:f=Φ q
 ·rw [h];exact⟨_,hl⟩
 ·exact ⟨o,hk f o h e⟩
theorem A7n(h1:σ.tr=some t)(h2:t.get n=some w):σ.obj S (.kid n w.ver)=some (.list (w.kids.map .int)):=by simp [St.obj,A2p h1 h2]
theorem Sim.setkid(hs:Sim S env σ P z y Φ s)(h1:σ.tr=some t)(h2:t.get n=some w){ks:List Int}{its:Array Value}{c:Nat}{h':Heap}{tk:Tok}(hk: ∀b o,b≠Φ (.kid n w.ver)→s.heap.get? b=some o→h'.get? b=some o)
  (hl:h'.get? (Φ (.kid n w.ver))=some ⟨.type "list",none,.seq its c,#[]⟩) (hv:A0c S P z Φ (ks.map .int) its.toList):Sim S env {σ with tr:=some (t.put n {w with kids:=ks})} P z y Φ {s with heap:=h',toks:=tk}:=by
 refine hs.setobj (A7n h1 h2) hk hl (o:= .list (ks.map .int)) ⟨its,c,hl,hv⟩ (fun j hj=>?_) (A7n (w:={w with kids:=ks}) rfl (Tree.get_put_self h2 _)) ⟨rfl,rfl,rfl,rfl,rfl,rfl,rfl⟩ (B2w h1 h2 _ (Nat.le_refl _) hs.pin)
 cases j with
 |wdic=>simp only [St.obj,h1,Option.bind_some,Tree.keys_put,Tree.refs_put];rfl
 |tree=>simp [St.obj,h1]
 |treeD=>simp [St.obj,h1,Tree.fields,Tree.put]
 |win m=>
  simp only [St.obj,A2y h1 h2]
  by_cases q:m=n
  ·subst q;rw [if_pos rfl,A2p h1 h2];rfl
  ·exact congrArg _ (if_neg q)
 |winD m=>
  simp only [St.obj,A2y h1 h2]
  by_cases q:m=n
  ·subst q;rw [if_pos rfl,A2p h1 h2];rfl
  ·exact congrArg _ (if_neg q)
 |kid m v=>
  simp only [St.obj,A2y h1 h2]
  by_cases q:m=n
  ·subst q;rw [if_pos rfl,A2p h1 h2]
   have:w.ver≠v:=fun e=>hj (by exact(congrArg _ (e)).symm)
   simp [this]
  ·rw [if_neg q]
 |_=>rfl
theorem C5m{l:List Int}{vs:List Value}(h:A0c S P z Φ (l.map .int) vs)(k:Int)(tk:Tok): ∀u∈vs,MeetsSeq.EqGives u (.int k tk) (isInt k u):=by
 induction l generalizing vs with
 |nil=>obtain rfl:=A4z h;intro u hu;exact k3 hu
 |cons a l ih=>
  refine A1x h.uncons fun v rr y9a hv hr=>?_
  obtain rfl:=y9a
  refine A0i (A0r hv) fun t y9a=>?_
  obtain rfl:=y9a
  intro u hu
  rcases List.mem_cons.mp hu with rfl|hu
  ·exact MeetsSeq.EqGives.int _ _ _ _
  ·exact ih hr u hu
theorem C5n{l:List Int}{vs:List Value}(h:A0c S P z Φ (l.map .int) vs)(k:Int)(i:Nat)(hi:i<vs.length): ∃hj:i<l.length,isInt k vs[i]=(l[i] == k):=by
 have hl:i<l.length:=by have:=h.len;simp only [List.length_map]at this;exact Z10 hi this
 refine⟨hl,?_⟩
 obtain ⟨v,e,hv⟩:=h.at i (a:= .int l[i]) (by simp only [List.getElem?_map,List.getElem?_eq_getElem hl];rfl)
 refine A0i (A0r hv) fun t y9a=>?_
 obtain rfl:=y9a
 rw [List.getElem?_eq_getElem hi]at e
 refine(congrArg _ (Option.some.inj e)).trans ?_;rfl
theorem C1v{pl:Sem Bool}{pos:Pos}{e:Expr}{a:AV}{l:List Int}{Q:AV→St→Prop}(he:starEach [e] env= [(false,eval e env)])(hl:LA S σ a (l.map .int))
  (h:W S d r env (RV S) (eval e env) σ (fun b σ₁=> ∃(k:Int) (l':List Int),b= .int k∧LA S σ₁ a (l'.map .int)∧l'.length≤100000∧k∈l'∧Q (.int (l'.idxOf k)) σ₁) X):
  GM S d r env (Str.ofString "index") pl pos [e] a σ Q X:=fun A P z y Φ s v hA hs hv=>by
 refine A3m (hl.at hs hv) fun b its n y9a g1 g2=>?_
 obtain rfl:=y9a
 refine getMethod_builtin (T:= "list") ⟨_,g1,rfl⟩ F.plainAttrs_list F.slot_list_index F.type_list_index (fun a ha=>by cases ha;exact⟨_,g1,rfl⟩) ?_
 rw [he]
 refine _root_.PySem.P.index_list (h.run hA hs (fun u s₁ P₁ z₁ Φ₁ σ₁ c x₁ r₁ hs₁ h₁=>?_) fun e s' hx=>hx)
 refine D0x h₁ fun k l' y9a hl' hlen hk hq=>?_
 try clear h₁
 obtain rfl:=y9a
 refine A0i (A0r r₁) fun tk y9a=>?_
 obtain rfl:=y9a
 refine A3m (hl'.at hs₁ (A1i.mono x₁.toExt0 _ _ hv)) fun b' its' n' eb g1' g2'=>?_
 cases eb
 have hsz:its'.size=l'.length:=by have:=g2'.size;rwa [List.length_map]at this
 have hj:l'.idxOf k<l'.length:=List.idxOf_lt_length_of_mem hk
 refine⟨its',n',isInt k,l'.idxOf k,by exact Z5 hsz hj,g1',fun u hu=>C5m g2' k tk u (by simpa using hu),by lia,?_,fun m hm hlt=>?_,?_⟩
 ·obtain ⟨_,e⟩:=C5n g2' k (l'.idxOf k) (by simp only [Array.length_toList];exact Z5 hsz hj)
  simp only [Array.getElem_toList]at e;simp only [e];simp
 ·obtain ⟨h1,e⟩:=C5n g2' k m (by simp only [Array.length_toList];exact hm)
  simp only [Array.getElem_toList]at e;simp only [e]
  have:(l'[m] == k)=false:=List.not_of_lt_findIdx (p:=(· == k)) hlt
  exact this
 ·exact Res.intro (b:= .int _) x₁ B5f (hs₁.tok _) hq
theorem A0c.take{l:List AV}{vs:List Value}(h:A0c S P z Φ l vs)(k:Nat):A0c S P z Φ (l.take k) (vs.take k):=by
 induction k generalizing l vs with
 |zero=>simpa using A0c.nil
 |succ k ih=>
  cases l with
  |nil=>obtain rfl:=A4z h;exact A0c.nil
  |cons a l=>obtain ⟨v,rr,rfl,hv,hr⟩:=h.uncons;simp only [List.take_succ_cons];exact A0c.cons hv (ih hr)
theorem A0c.drop{l:List AV}{vs:List Value}(h:A0c S P z Φ l vs)(k:Nat):A0c S P z Φ (l.drop k) (vs.drop k):=by
 induction k generalizing l vs with
 |zero=>exact h
 |succ k ih=>
  cases l with
  |nil=>obtain rfl:=A4z h;exact A0c.nil
  |cons a l=>obtain ⟨v,rr,rfl,hv,hr⟩:=h.uncons;simp only [List.drop_succ_cons];exact ih hr
theorem B4c{h:Heap}{a:Addr}{its ys:Array Value}{c:Nat}{f:Array Value→Array Value}(e:h.get? a=some ⟨.type "list",none,.seq its c,#[]⟩)(hf:f its=ys):
  ∃c',(h.update a (Obj.mapSeq f)).get? a=some ⟨.type "list",none,.seq ys c',#[]⟩:=by
 subst hf
 exact⟨_,(Heap.get?_update_self _ e (show(Obj.isFreed ⟨.type "list",none,.seq _ _,#[]⟩)=false from rfl))⟩
theorem C3h{A:Around}{E:Value→Shared→Prop}{Q:Value→Shared→Prop}{id:String}{self:List Value}{e:Expr}{rest:List Expr}{pos:Pos}(he:starEach (e::rest) env=(false,eval e env)::starEach rest env)(hplain:(backTo pos (starEach rest env)).any (·.1)=false)
  (h:wpAny (model S.prog S.w) A (spliced (backTo pos (starEach (e::rest) env))) (fun vs s₁=>wpAny (model S.prog S.w) A (call (.builtin id) (self++vs)) Q E s₁) E s):
  wpAny (model S.prog S.w) A (callWith pos (.builtin id) self (backTo pos (starEach (e::rest) env)) []) Q E s:=by
 have hb':(backTo pos (starEach (e::rest) env))=(false,eval e env)::backTo pos (starEach rest env):=by refine(congrArg _ (he)).trans ?_;rfl
 rw [hb']at h ⊢
 refine callWith_of (P:=fun _=>True) (by show((false || (backTo pos (starEach rest env)).any (·.1)) || false)=false;rw [hplain];rfl) (fun h _=>⟨Keeper.machine,Or.inr (Or.inl rfl),Looks.of_pure rfl⟩) (evalArgs_plain (wpAny_mono h (fun vs s₁ h₁=>?_) fun _ _ e=>e))
 exact⟨trivial,h₁⟩
theorem C5q{pl:Sem Bool}{pos:Pos}{e:Expr}{rest:List Expr}{t₀:Tree}{w₀:Win}{Q:AV→St→Prop}(he:starEach (e::rest) env=(false,eval e env)::starEach rest env)(hplain:(backTo pos (starEach rest env)).any (·.1)=false)(h0:σ.tr=some t₀)(h00:t₀.get n=some w₀)
  (h:W S d r env (RL S) (spliced (backTo pos (starEach (e::rest) env))) σ (fun as σ₁=> ∃(k:Nat) (i:Int) (t:Tree) (w:Win),as= [.int k,.int i]∧σ₁.tr=some t∧t.get n=some w∧w.ver=w₀.ver∧w.kids.length≤100000∧k≤w.kids.length∧
   Q .none {σ₁ with tr:=some (t.put n {w with kids:=w.kids.take k++i::w.kids.drop k})}) X):
  GM S d r env (Str.ofString "insert") pl pos (e::rest) (.ref (.kid n w₀.ver)) σ Q X:=fun A P z y Φ s v hA hs hv=>by
 refine A0f (A1s hv) fun hp y9a=>?_
 obtain rfl:=y9a
 refine A3w (hs.core.rep _ _ (A7n h0 h00)) fun its c g1 g2=>getMethod_builtin (T:= "list") ⟨_,g1,rfl⟩ F.plainAttrs_list F.slot_list_insert F.type_list_insert (fun a ha=>by cases ha;exact⟨_,g1,rfl⟩) (C3h he hplain (h.run hA hs (fun vs s₁ P₁ z₁ Φ₁ σ₁ as x₁ r₁ hs₁ h₁=>?_) fun e s' hx=>hx))
 refine C1j h₁ fun k i t w y9a q1 q2 q3 q4 y9b=>?_
 try clear h₁
 refine A0f y9b fun q5 hq=>?_
 obtain rfl:=y9a
 refine A1x ((r₁:A0c S P₁ z₁ Φ₁ _ vs).uncons) fun v1 rr y9a hv1 hr=>?_
 obtain rfl:=y9a
 obtain ⟨v2,rr,rfl,hv2,hr⟩:=hr.uncons
 have:rr= []:=hr
 subst this
 refine A0i (A0r hv1) fun tk y9a=>?_
 obtain rfl:=y9a
 refine A3w (hs₁.core.rep _ _ (A7n q1 q2)) fun its' c' g1' g2'=>?_
 rw [q3,x₁.f _ hp]at g1'
 have z1:its'.size=w.kids.length:=by have:=g2'.size;rwa [List.length_map]at this
 have hk9:(k:Int)≤100000:=by lia
 have hfit:Builtin.List.listFitsIndex (k:Int)=true:=fitsIndex_of (Int.natCast_nonneg k) (Int.lt_of_le_of_lt hk9 (by decide))
 have hfit2: ¬(!Builtin.List.listFitsIndex (k:Int))=true:=by rw [hfit];decide
 have hsz2:its'.size≤sizeLine:=by have:=sizeLine_eq;exact Z11 q4 z1 this
 generalize hkk:(k:Int)=kk at *
 have M:=PySem.AutoSeq1.list_insert_list_int_val_1 (Φ (.kid n w₀.ver)) its' c' kk tk v2 hfit2 hsz2
 have g1'':s₁.heap.get? (Φ (.kid n w₀.ver))=some {cls:= .type "list",dict:=none,data:= .seq its' c',slots:= #[]}:=g1'
 refine call_meets PySem.F.slot_list_insert ⟨_,g1'',rfl⟩ PySem.F.entry_list_insert (PySem.F.args_list_insert_3 _ _ _) M ⟨g1'',?_⟩
 have e0:(if kk<0 then(kk+ (its'.size:Int)).toNat else min kk.toNat its'.size)=k:=by
  rw [if_neg (by lia),←hkk,Int.toNat_natCast];lia
 have e3:Φ₁ (.kid n w.ver)=Φ (.kid n w₀.ver):=by simp only [q3,x₁.f _ hp]
 obtain ⟨cc,hcc⟩: ∃cc,(s₁.heap.update (Φ (.kid n w₀.ver)) (Obj.mapSeq fun xs=>
      have k:=if kk<0 then(kk+ (xs.size:Int)).toNat else min kk.toNat xs.size;
      (xs.extract 0 k).push v2++xs.extract k)).get? (Φ (.kid n w₀.ver))=some ⟨.type "list",none,.seq ((its'.extract 0 k).push v2++its'.extract k) cc,#[]⟩:=by
  refine B4c g1'' ?_
  show(its'.extract 0 (if kk<0 then(kk+ (its'.size:Int)).toNat else min kk.toNat its'.size)).push v2++its'.extract (if kk<0 then(kk+ (its'.size:Int)).toNat else min kk.toNat its'.size)=_
  rw [e0]
 refine Res.intro (b:= .none) x₁ B6u (hs₁.setkid q1 q2 (ks:=w.kids.take k++i::w.kids.drop k) (tk:=s₁.toks) (fun b o hb e=>?_) (by rw [e3];exact hcc) ?_) hq
 ·exact (Heap.get?_update_other _ _ (by rw [←e3];exact Ne.symm hb)).trans e
 ·have a1:=g2'.take k
  have a2:=g2'.drop k
  rw [←List.map_take]at a1
  rw [←List.map_drop]at a2
  have:((its'.extract 0 k).push v2++its'.extract k).toList=its'.toList.take k++v2::its'.toList.drop k:=by
   simp only [Array.toList_append,Array.toList_push,Array.toList_extract,Array.toList_extract]
   have:List.take (its'.size-k) (List.drop k its'.toList)=List.drop k its'.toList:=List.take_of_length_le (by simp)
   simp [List.extract,this]
  simp only [this,List.map_append,List.map_cons]
  exact A0c.app a1 (A0c.cons hv2 a2)
end
section
variable {S:SP} {d:Nat} {r:Bool} {env:Env} {σ σ':St} {X:St→Prop} {P P':Key→Prop} {z z':Gh} {y:Gy} {Φ Φ':Key→Addr} {s s':Shared} {t:Tree} {n:Int} {w:Win}
theorem A7b{o i:Expr}{pos' value pos}{Q:AF→St→Prop}(hsw:swapsWith value (some (.Subscript o i pos')) pos.line env=pure false)(h:W S d r env (RV S) (eval value env) σ (fun a σ₁=>W S d r env (RV S) (eval o env) σ₁ (fun b σ₂=>W S d r env (RV S) (eval i env) σ₂ (fun c σ₃=>
   W1 S d r env (R3 S) RU (fun v:Value×Value×Value=>setItem v.1 v.2.1 v.2.2) (b,c,a) σ₃ (fun _=>Q .next) X) X) X) X):W S d r env (RF S) (exec (.Assign [.Subscript o i pos'] value pos) env) σ Q X:=fun A P z y Φ s hA hs=>
 wpAny_Assign_Subscript (h.run hA hs (fun v s₁ P₁ z₁ Φ₁ σ₁ a x₁ r₁ hs₁ h₁=>h₁.run hA hs₁ (fun u s₂ P₂ z₂ Φ₂ σ₂ b x₂ r₂ hs₂ h₂=>h₂.run hA hs₂ (fun i' s₃ P₃ z₃ Φ₃ σ₃ c x₃ r₃ hs₃ h₃=>
  W1.run (v:=(u,i',v)) h₃ hA hs₃ ⟨A1i.mono x₃.toExt0 _ _ r₂,r₃,A1i.mono (x₂.trans x₃).toExt0 _ _ r₁⟩ (fun c s₄ P₄ z₄ Φ₄ σ₄ g x₄ r₄ hs₄ q=>Res.intro (b:= .next) (((x₁.trans x₂).trans x₃).trans x₄) A1y hs₄ q) fun e s' hx=>hx.ext ((x₁.trans x₂).trans x₃))
   fun e s' hx=>hx.ext (x₁.trans x₂)) fun e s' hx=>hx.ext x₁) fun e s' hx=>hx) hsw
theorem A0c.set{l:List AV}{vs:List Value}(h:A0c S P z Φ l vs)(k:Nat){a:AV}{v:Value}(hv:A1i S P z Φ a v):A0c S P z Φ (l.set k a) (vs.set k v):=by
 induction l generalizing vs k with
 |nil=>obtain rfl:=A4z h;simpa using A0c.nil
 |cons b l ih=>
  refine A1x h.uncons fun u rr y9a hu hr=>?_
  obtain rfl:=y9a
  cases k with
  |zero=>exact A0c.cons hv hr
  |succ k=>exact A0c.cons hu (ih hr k)
theorem D1t{k:Nat}{i:Int}{Q:Unit→St→Prop}(h1:σ.tr=some t)(h2:t.get n=some w)(hk:k<w.kids.length)(hlen:w.kids.length≤100000)(h:Q () {σ with tr:=some (t.put n {w with kids:=w.kids.set k i})}):
  W1 S d r env (R3 S) RU (fun v:Value×Value×Value=>setItem v.1 v.2.1 v.2.2) (.ref (.kid n w.ver),.int k,.int i) σ Q X:=fun A P z y Φ s v hA hs hv=>by
 obtain ⟨v1,v2,v3⟩:=v
 refine A0f (A1s hv.1) fun _ e1=>A0i (A0r hv.2.1) fun t2 e2=>?_
 dsimp only at e1 e2;subst e1 e2
 refine A3w (hs.core.rep _ _ (A7n h1 h2)) fun its c g1 g2=>?_
 have z1:its.size=w.kids.length:=by have:=g2.size;rwa [List.length_map]at this
 refine ki_setAt (n:=c) g1 (Int.ofNat_nonneg _) (by lia) (by lia) (A0i (B4c (f:=(·.setIfInBounds (k:Int).toNat v3)) (ys:=its.setIfInBounds k v3) g1 (by rfl)) fun cc hcc=>Res.of (b:=()) (hs.setkid h1 h2 (ks:=w.kids.set k i) (tk:=s.toks) (fun b o hb e=>(Heap.get?_update_other _ _ (Ne.symm hb)).trans e) hcc ?_) trivial h)
 simp only [Array.toList_setIfInBounds,List.map_set]
 exact g2.set k hv.2.2
theorem A8q{ks:List Int}{vs:List Value}{n:Int}{v:Value}(hn:n∉ks)(hl:ks.length=vs.length):stored (ks.zip vs) n v=(ks++ [n]).zip (vs++ [v]):=by
 unfold stored
 rw [if_neg,List.zip_append hl];rfl
 rw [List.any_eq_true]
 rintro ⟨⟨a,b⟩,hab,e⟩
 have:=(List.of_mem_zip hab).1
 exact hn ((of_decide_eq_true e:a=n)▸this)
theorem Tree.get_none{t:Tree}{n:Int}(h:t.get n=none):n∉t.wins.map (·.1):=by
 unfold Tree.get at h
 rw [List.lookup_eq_none_iff]at h
 intro hm
 refine A0e (List.mem_map.mp hm) fun p hp e=>?_
 have:=h p hp
 rw [e]at this;simp at this
theorem Tree.get_add{t:Tree}{n:Int}(h:t.get n=none)(w:Win)(m:Int):(t.add n w).get m=if m=n then some w else t.get m:=by
 unfold Tree.get Tree.add at *
 refine(List.lookup_append).trans ?_
 by_cases q:m=n
 ·subst q;rw [h,if_pos rfl];simp [List.lookup_cons]
 ·have:(m == n)=false:=by simpa using q
  rw [if_neg q];simp [List.lookup_cons,this]
theorem B0u(h1:σ.tr=some t)(h0:σ.nw=some (n,16,w))(hn:t.get n=none)(m:Int):({σ with tr:=some (t.add n w),nw:=none}:St).find m=σ.find m:=by
 have hb:σ.tr.bind (·.get n)=none:=by rw [h1];exact hn
 rw [A2h h0 hb,A6s rfl]
 simp only [h1,Option.bind_some,Tree.get_add hn]
 by_cases q:m=n <;> simp [q]
theorem C4k{Q:Unit→St→Prop}(h1:σ.tr=some t)(hS:t.S5)(h0:σ.nw=some (n,16,w))(hn:t.get n=none)(hlen:t.wins.length≤1000)(h:Q () {σ with tr:=some (t.add n w),nw:=none}):
  W1 S d r env (R3 S) RU (fun v:Value×Value×Value=>setItem v.1 v.2.1 v.2.2) (.ref .wdic,.int n,.ref (.win n)) σ Q X:=fun A P z y Φ s v hA hs hv=>by
 obtain ⟨v1,v2,v3⟩:=v
 refine A0f (A1s hv.1) fun _ e1=>A0i (A0r hv.2.1) fun t2 e2=>?_
 dsimp only at e1 e2;subst e1 e2
 refine A6d (hs.core.rep _ _ (A7d h1 hS.one)) fun vs g0 g1 g2 g3=>?_
 have hl:((t.wins.map (·.1)).zip vs).length≤1000:=by rw [List.length_zip,List.length_map];lia
 have hS':(t.add n w).stg=t.stg:=rfl
 refine wpAny_setItem_pairs (intKind_is _ _ n t2) g1 (fun h' hd hb=>?_) (by have:=sizeLine_eq;lia)
 rw [A8q (Tree.get_none hn) g2]at hd
 refine A0e (Heap.dictOf_iff.mp hd) fun oo hoo _=>?_
 refine Res.of (b:=()) (hs.setobj (σ':={σ with tr:=some (t.add n w),nw:=none}) (tk:=s.toks+1) (A7d h1 hS.one) (fun b o hb' e=>(hb.2 b hb').trans e) hoo (o:= .idic (t.wins.map (·.1)++ [n]) ((t.wins.map fun p=> .ref (.win p.1))++ [.ref (.win n)]))
  ⟨_,g0,hd,by simpa using g2,A0c.app g3 (A0c.cons hv.2.2 A0c.nil)⟩ (fun j hj=>?_) ?_ ⟨rfl,rfl,rfl,rfl,rfl,rfl,rfl⟩ ?_) trivial h
 ·cases j with
  |wdic=>exact absurd rfl hj
  |tree=>simp [St.obj,h1]
  |treeD=>simp [St.obj,h1,Tree.fields,Tree.add]
  |win m=>simp only [St.obj,B0u h1 h0 hn]
  |winD m=>simp only [St.obj,B0u h1 h0 hn]
  |kid m v=>simp only [St.obj,B0u h1 h0 hn]
  |_=>rfl
 ·have:=A7d (S:=S) (σ:={σ with tr:=some (t.add n w),nw:=none}) (t:=t.add n w) rfl (by rw [hS'];exact hS.one)
  simp only [this];simp [Tree.add]
 ·refine ⟨hs.pin.tmp,fun m hm=>?_,fun m v hm=>?_,fun _=>⟨_,rfl⟩,fun _=>⟨_,rfl,by rw [hS'];exact hS.one⟩,hs.pin.deck⟩
  ·simp only [B0u h1 h0 hn];exact hs.pin.win m hm
  ·simp only [B0u h1 h0 hn];exact hs.pin.kid m v hm
theorem C9o{x:Str}{xp fp lp pos:Pos}{elts:List Expr}{Q:AF→St→Prop}(h:W S d r env (RL S) (spliced (backTo lp (starEach elts env))) σ (fun as σ₁=> ∃(ks:List Int) (n:Int) (t:Tree) (w:Win),as=ks.map .int∧ks.length≤1000∧Has σ₁.nam σ₁.loc x (.ref (.win n))∧σ₁.tr=some t∧t.get n=some w∧
   Q .next {σ₁ with tr:=some (t.put n {w with kids:=ks,ver:=w.ver+1})}) X):
  W S d r env (RF S) (exec (.Assign [.Attribute (.Name x xp) (Str.ofString "children") fp] (.List elts lp) pos) env) σ Q X:=fun A P z y Φ s hA hs=>by
 refine plainObj_wpAny_Assign_Attribute (List_ (h.run hA hs (fun vs s P z Φ σ as x₁ r₁ hs h₁=>?_) fun e s' hx=>hx)) rfl
 refine C1j h₁ fun ks n t w y9a hkl hx h1 h2 hq=>?_
 try clear h₁
 obtain rfl:=y9a
 have hsz:=(r₁:A0c S P z Φ _ vs).len
 simp only [List.length_map]at hsz
 refine wpAny_newObj_type ?_ (by show vs.toArray.size≤sizeLine;rw [List.size_toArray];have:=sizeLine_eq;lia)
 have hs₁:=hs.grow (s.heap.push {cls:= .type "list",data:= .seq vs.toArray}) s.toks s.drawn (fun _ _ e=>Heap.get?_push_of_some _ e)
 have nb:=A0y s.heap
 refine A1a (hs.off nb) fun o1 o2 o3=>B3z hs₁ hx fun v hv=>A0f (A1s hv) fun pw y9a=>?_
 obtain rfl:=y9a
 have nk: ¬P (.kid n (w.ver+1)):=fun hp=>by obtain ⟨p,e,_,e3⟩:=hs.pin.kid n _ hp;rw [A2p h1 h2]at e;cases e;exact absurd e3 (Nat.not_succ_le_self _)
 refine B6x (σ':={σ with tr:=some (t.put n {w with kids:=ks,ver:=w.ver+1})}) (v':=w.ver+1) (ks:=ks) hs₁ (A2p h1 h2) ⟨vs.toArray,0,Heap.get?_push_size _ rfl,by simpa using r₁⟩ o1 o2 (fun j o q k1 k2=>?_) (o3 _ _ (A0v h1 h2)) ?_ ?_ ?_ nk ⟨rfl,rfl,rfl,rfl,rfl,rfl,rfl⟩ ?_
  fun s' P' Φ' x hs'=>Res.intro (b:= .next) (x₁.trans x) A1y hs' hq
 ·have:σ.obj S j=some o:=by
   cases j with
   |win m=>
    simp only [St.obj,A2y h1 h2]at q ⊢;by_cases hm:m=n
    ·subst hm;rw [if_pos rfl]at q;refine(congrArg _ (A2p h1 h2)).trans ?_;exact q
    ·rwa [if_neg hm]at q
   |winD m=>
    have hm:m≠n:=fun e=>k2 (by exact congrArg _ (e))
    simp only [St.obj,A2y h1 h2,if_neg hm]at q ⊢;exact q
   |kid m v=>
    simp only [St.obj,A2y h1 h2]at q ⊢
    by_cases hm:m=n
    ·subst hm
     simp only [if_true,Option.bind_some]at q
     split at q
     ·rename_i hh;exact absurd (by exact congrArg _ (hh.2).symm) k1
     ·exact k13 q rfl
    ·rwa [if_neg hm]at q
   |wdic=>simp only [St.obj,h1,Option.bind_some,Tree.keys_put,Tree.refs_put]at q ⊢;exact q
   |tree=>simpa [St.obj,h1]using q
   |treeD=>simpa [St.obj,h1,Tree.fields,Tree.put]using q
   |_=>exact q
  exact⟨this,o3 _ _ this⟩
 ·exact A7n (w:={w with kids:=ks,ver:=w.ver+1}) rfl (Tree.get_put_self h2 _)
 ·refine (A0v (w:={w with kids:=ks,ver:=w.ver+1}) rfl (Tree.get_put_self h2 _)).trans ?_;rfl
 ·exact A1p (w:={w with kids:=ks,ver:=w.ver+1}) rfl (Tree.get_put_self h2 _)
 ·have:=B2w h1 h2 {w with kids:=ks,ver:=w.ver+1} (Nat.le_succ _) hs.pin
  refine⟨fun k h=>this.tmp k (h.resolve_right (k9 rfl)),fun m h=>this.win m (h.imp (fun h=>h.resolve_right (k9 rfl)) fun h=>h.resolve_right (k9 rfl)),fun m v h=>?_,fun h=>this.tree (h.imp (fun h=>h.resolve_right (k9 rfl)) fun h=>h.resolve_right (k9 rfl)),fun h=>this.wdic (h.resolve_right (k9 rfl)),fun h=>this.deck (h.resolve_right (k9 rfl))⟩
  rcases h with h|h
  ·exact this.kid m v h
  ·cases h;exact⟨(16,_),A2p rfl (Tree.get_put_self h2 _),by show 4≤16;exact Nat.le_of_ble_eq_true rfl,Nat.le_refl _⟩
theorem C9n{x x2:Str}{xp fp x2p pos:Pos}{k:Nat}{ks:List Int}{Q:AF→St→Prop}(hsw:swapsWith (.Name x2 x2p) (some (.Attribute (.Name x xp) (Str.ofString "children") fp)) pos.line env=pure false)(hx2:Has σ.nam σ.loc x2 (.ref (.tmp σ.fid k)))(hx:Has σ.nam σ.loc x (.ref (.win n)))(h0:σ.tmp[k]? =some (some (.list (ks.map .int))))(h1:σ.tr=some t)(h2:t.get n=some w)
  (h:Q .next {σ with tr:=some (t.put n {w with kids:=ks,ver:=w.ver+1}),tmp:=σ.tmp.set k none}):
  W S d r env (RF S) (exec (.Assign [.Attribute (.Name x xp) (Str.ofString "children") fp] (.Name x2 x2p) pos) env) σ Q X:=fun A P z y Φ s hA hs=>by
 refine plainObj_wpAny_Assign_Attribute (B3z hs hx2 fun v hv=>?_) hsw
 refine A0f (A1s hv) fun pt y9a=>?_
 obtain rfl:=y9a
 refine B3z hs hx fun v hv=>A0f (A1s hv) fun pw y9a=>?_
 obtain rfl:=y9a
 have ot:σ.obj S (.tmp σ.fid k)=some (.list (ks.map .int)):=A1t.mpr ⟨rfl,h0⟩
 have hlt:k<σ.tmp.length:=(List.getElem?_eq_some_iff.mp h0).1
 have nk: ¬P (.kid n (w.ver+1)):=fun hp=>by obtain ⟨p,e,_,e3⟩:=hs.pin.kid n _ hp;rw [A2p h1 h2]at e;cases e;exact absurd e3 (Nat.not_succ_le_self _)
 refine B6x (σ':={σ with tr:=some (t.put n {w with kids:=ks,ver:=w.ver+1}),tmp:=σ.tmp.set k none}) (v':=w.ver+1) (ks:=ks) hs (A2p h1 h2) (hs.core.rep _ _ ot) (hs.core.zf _ _ ot) (hs.core.yf _ _ ot) (fun j o q k1 k2=>?_)
  (fun e=>by have:=hs.core.inj _ _ _ _ (A0v h1 h2) ot e;contradiction) ?_ ?_ ?_ nk ⟨rfl,rfl,rfl,rfl,rfl,rfl,rfl⟩ ?_ fun s' P' Φ' x hs'=>Res.intro (b:= .next) x A1y hs' h
 ·have:σ.obj S j=some o∧j≠ .tmp σ.fid k:=by
   cases j with
   |win m=>
    refine⟨?_,by exact k9 rfl⟩
    simp only [St.obj]at q ⊢;rw [show({σ with tr:=some (t.put n {w with kids:=ks,ver:=w.ver+1}),tmp:=σ.tmp.set k none}:St).find m=_ from A2y h1 h2 _ m]at q;by_cases hm:m=n
    ·subst hm;rw [if_pos rfl]at q;refine(congrArg _ (A2p h1 h2)).trans ?_;exact q
    ·rwa [if_neg hm]at q
   |winD m=>
    refine⟨?_,by exact k9 rfl⟩
    have hm:m≠n:=fun e=>k2 (by exact congrArg _ (e))
    simp only [St.obj]at q ⊢;rw [show({σ with tr:=some (t.put n {w with kids:=ks,ver:=w.ver+1}),tmp:=σ.tmp.set k none}:St).find m=_ from A2y h1 h2 _ m,if_neg hm]at q;exact q
   |kid m v=>
    refine⟨?_,by exact k9 rfl⟩
    simp only [St.obj]at q ⊢;rw [show({σ with tr:=some (t.put n {w with kids:=ks,ver:=w.ver+1}),tmp:=σ.tmp.set k none}:St).find m=_ from A2y h1 h2 _ m]at q
    by_cases hm:m=n
    ·subst hm
     simp only [if_true,Option.bind_some]at q
     split at q
     ·rename_i hh;exact absurd (by exact congrArg _ (hh.2).symm) k1
     ·exact k13 q rfl
    ·rwa [if_neg hm]at q
   |wdic=>
    refine⟨?_,by exact k9 rfl⟩
    simp only [St.obj,h1,Option.bind_some,Tree.keys_put,Tree.refs_put]at q ⊢;exact q
   |tree=>exact⟨by simpa [St.obj,h1]using q,by exact k9 rfl⟩
   |treeD=>exact⟨by simpa [St.obj,h1,Tree.fields,Tree.put]using q,by exact k9 rfl⟩
   |tmp f i=>
    refine A0f (A1t.mp q) fun e1 e2=>?_
    have e2:(σ.tmp.set k none)[i]? =some (some o):=e2
    have hik:k≠i:=fun e=>by subst e;rw [List.getElem?_set_self hlt]at e2;cases e2
    rw [List.getElem?_set_ne hik]at e2
    exact⟨A1t.mpr ⟨e1,e2⟩,fun e=>hik (by cases e;rfl)⟩
   |loc f=>exact⟨q,by exact k9 rfl⟩
   |cel f i=>exact⟨q,by exact k9 rfl⟩
   |rl f=>exact⟨q,by exact k9 rfl⟩
   |rlD f=>exact⟨q,by exact k9 rfl⟩
   |tab=>exact⟨q,by exact k9 rfl⟩
   |deck=>exact⟨q,by exact k9 rfl⟩
  exact⟨this.1,fun e=>this.2 (hs.core.inj _ _ _ _ this.1 ot e)⟩
 ·exact A7n (w:={w with kids:=ks,ver:=w.ver+1}) rfl (Tree.get_put_self h2 _)
 ·refine (A0v (w:={w with kids:=ks,ver:=w.ver+1}) rfl (Tree.get_put_self h2 _)).trans ?_;rfl
 ·exact A1p (w:={w with kids:=ks,ver:=w.ver+1}) rfl (Tree.get_put_self h2 _)
 ·have:=B2w h1 h2 {w with kids:=ks,ver:=w.ver+1} (Nat.le_succ _) hs.pin
  refine⟨fun k' h=>by show k'< (σ.tmp.set k none).length;simp only [List.length_set];exact this.tmp k' (h.resolve_right (k9 rfl)),fun m h=>this.win m (h.imp (fun h=>h.resolve_right (k9 rfl)) fun h=>h.resolve_right (k9 rfl)),fun m v h=>?_,fun h=>this.tree (h.imp (fun h=>h.resolve_right (k9 rfl)) fun h=>h.resolve_right (k9 rfl)),fun h=>this.wdic (h.resolve_right (k9 rfl)),fun h=>this.deck (h.resolve_right (k9 rfl))⟩
  rcases h with h|h
  ·exact this.kid m v h
  ·cases h;exact⟨(16,_),A2p (σ:={σ with tr:=some (t.put n {w with kids:=ks,ver:=w.ver+1}),tmp:=σ.tmp.set k none}) rfl (Tree.get_put_self h2 _),by show 4≤16;exact Nat.le_of_ble_eq_true rfl,Nat.le_refl _⟩
end
noncomputable def D5l(sc:Scope)(ps nam cnm glb:List Str):Bool:=
 nam.all (fun x=>sc.names.lookup x == some .local && !(x == ("__debug__":Str))) && cnm.all (fun x=>sc.names.lookup x == some .cell && !(x == ("__debug__":Str))) && glb.all (fun x=>sc.names.lookup x == some .globalImplicit && !(x == ("__debug__":Str))) &&
  decide nam.Nodup && decide ((sc.names.filter (·.2 == .cell)).map (·.1)=cnm) && decide cnm.Nodup && (sc.kind == .function) && !sc.isCoroutine && !sc.isGenerator && decide ps.Nodup && ps.all (fun x=>nam.contains x || cnm.contains x)
theorem B8c{x:Str}(names:List (Str×NameKind))(n:Nat)(acc:List (Str×Addr))(h:x∉(names.filter (·.2 == .cell)).map (·.1)):(cellsFrom n names acc).lookup x=acc.lookup x:=by
 induction names generalizing n acc with
 |nil=>rfl
 |cons p r ih=>
  obtain ⟨y,k⟩:=p
  unfold cellsFrom
  by_cases hk:(k == .cell)=true
  ·refine (congrArg _ (if_pos hk)).trans ?_
   simp only [List.filter_cons,hk,if_true,List.map_cons,List.mem_cons,not_or]at h
   refine((ih (n+1) _ h.2).trans (List.lookup_cons)).trans ?_
   have:(x == y)=false:=by simpa using h.1
   rw [this]
  ·refine (congrArg _ (if_neg hk)).trans ?_
   simp only [List.filter_cons,hk]at h
   exact ih n acc h
theorem B9z{x:Str}(names:List (Str×NameKind))(n i:Nat)(acc:List (Str×Addr))(hn:((names.filter (·.2 == .cell)).map (·.1)).Nodup)(h:((names.filter (·.2 == .cell)).map (·.1))[i]? =some x):(cellsFrom n names acc).lookup x=some (n+i):=by
 induction names generalizing n i acc with
 |nil=>exact k1 h
 |cons p r ih=>
  obtain ⟨y,k⟩:=p
  unfold cellsFrom
  by_cases hk:(k == .cell)=true
  ·refine (congrArg _ (if_pos hk)).trans ?_
   simp only [List.filter_cons,hk,if_true,List.map_cons]at h hn
   refine A0f (List.nodup_cons.mp hn) fun h1 h2=>?_
   cases i with
   |zero=>
    simp only [List.getElem?_cons_zero,Option.some.injEq]at h;subst h
    refine((B8c r (n+1) _ h1).trans (List.lookup_cons)).trans ?_;simp
   |succ i=>
    simp only [List.getElem?_cons_succ]at h
    refine(ih (n+1) i _ h2 h).trans ?_
    congr 1;lia
  ·refine (congrArg _ (if_neg hk)).trans ?_
   simp only [List.filter_cons,hk]at h hn
   exact ih n i acc hn h
theorem A6w{S:SP}{F:FnI}{oc:Value}{od:Option Addr}{osl:Array (Option Value)}{name:Str}{params:Arguments}{dV kV doc pm:Value}{an:Option Addr}{ct:Value}
  (hl:S.K.lookup F.a=some ⟨oc,od,.func (fnX name F.qual params F.body F.scope [] dV kV doc pm an F.cdv ct),osl⟩)
  (hb: ∀(s:Shared) (vals:List Value),(∀b o,S.base.get? b=some o→s.heap.get? b=some o)→vals.length+F.dfl.length=F.ps.length→
   ∃dvals,(∀P z Φ,A0c S P z Φ F.dfl dvals)∧BindsTo s (fnX name F.qual params F.body F.scope [] dV kV doc pm an F.cdv ct) ⟨vals,[]⟩ (F.ps.zip (vals++dvals)))
  (hc:codeIn S.K F.cdv F.qual=true) (hk:keepIn S.K (.ref F.a)=true) (he:D5l F.scope F.ps F.nam F.cnm F.glb=true):FnOK S F:=by
 simp only [D5l,Bool.and_eq_true,List.all_eq_true,decide_eq_true_eq,Bool.not_eq_true',beq_iff_eq]at he
 refine A0f he fun y9a e11=>?_
 try clear he
 obtain ⟨⟨⟨⟨⟨⟨⟨⟨⟨e1,e2⟩,e3⟩,e4⟩,e5⟩,e6⟩,e7⟩,e8⟩,e9⟩,e10⟩:=y9a
 refine⟨⟨oc,od,osl,name,params,dV,kV,doc,pm,an,ct,hl,hb⟩,hc,hk,e8,e9,fun L=>⟨e7,rfl,rfl,fun x hx=>e1 x hx,fun x hx=>e2 x hx,fun x hx=>e3 x hx,e4⟩,e10,fun i x L h=>?_,fun x hx=>?_⟩
 ·exact B9z _ _ _ _ (e5▸e6) (e5▸h)
 ·rcases Bool.or_eq_true_iff.mp (e11 x hx)with h|h
  ·exact .inl (e1 x (by simpa using h)).1
  ·exact .inr ⟨(e2 x (by simpa using h)).1,by simpa using h⟩
noncomputable def C4z(s:Stmt):List Stmt×Scope:=match s with
 | .FunctionDef _ _ b _ _ _ sc ..=>(b,sc)
 | .ClassDef _ _ _ b ..=>(b,default)
 | .If _ _ o _=>(o,default)
 |_=>([],default)
noncomputable def A0j(s:Stmt):List Stmt:=(C4z s).1
noncomputable def A1b(l:List Stmt)(n:Nat):Stmt:=(l[n]?).getD (.Pass default)
noncomputable def A0p(s:Stmt):Scope:=(C4z s).2
noncomputable def A4t:FnI:={a:=28,qual:= "oldest_leaf",ps:= ["tree","numbers"],dfl:= [],nam:= ["tree","numbers","found","number"],cnm:= [],glb:= [],body:=A0j (A1b PySem.Challenge.pw_np0073_01.main.body 2),scope:=A0p (A1b PySem.Challenge.pw_np0073_01.main.body 2),cdv:= .ref 27}
noncomputable def A4a:FnI:={a:=35,qual:= "largest_leaf",ps:= ["tree","numbers"],dfl:= [],nam:= ["tree","numbers","found","most","number","here"],cnm:= [],glb:= [],body:=A0j (A1b PySem.Challenge.pw_np0073_01.main.body 3),scope:=A0p (A1b PySem.Challenge.pw_np0073_01.main.body 3),cdv:= .ref 34}
noncomputable def A0n:FnI:={a:=49,qual:= "LispSignal.__init__",ps:= ["self","symbol","data"],dfl:= [],nam:= ["self","symbol","data"],cnm:= [],glb:= [],body:=A0j (A1b (A0j (A1b PySem.Challenge.pw_np0073_01.main.body 5)) 0),scope:=A0p (A1b (A0j (A1b PySem.Challenge.pw_np0073_01.main.body 5)) 0),cdv:= .ref 48}
noncomputable def A4w:FnI:={a:=69,qual:= "Window.__init__",ps:= ["self","number","sort","parent"],dfl:= [],nam:= ["self","number","sort","parent"],cnm:= [],glb:= [],body:=A0j (A1b (A0j (A1b PySem.Challenge.pw_np0073_01.main.body 12)) 0),scope:=A0p (A1b (A0j (A1b PySem.Challenge.pw_np0073_01.main.body 12)) 0),cdv:= .ref 68}
noncomputable def A4u:FnI:={a:=76,qual:= "Window.size",ps:= ["self","axis"],dfl:= [],nam:= ["self","axis"],cnm:= [],glb:= ["WIDTH"],body:=A0j (A1b (A0j (A1b PySem.Challenge.pw_np0073_01.main.body 12)) 1),scope:=A0p (A1b (A0j (A1b PySem.Challenge.pw_np0073_01.main.body 12)) 1),cdv:= .ref 75}
noncomputable def A2j:FnI:={a:=83,qual:= "Window.set_size",ps:= ["self","axis","size"],dfl:= [],nam:= ["self","axis","size"],cnm:= [],glb:= ["WIDTH"],body:=A0j (A1b (A0j (A1b PySem.Challenge.pw_np0073_01.main.body 12)) 2),scope:=A0p (A1b (A0j (A1b PySem.Challenge.pw_np0073_01.main.body 12)) 2),cdv:= .ref 82}
noncomputable def A4c:FnI:={a:=90,qual:= "Window.place",ps:= ["self","axis"],dfl:= [],nam:= ["self","axis"],cnm:= [],glb:= ["WIDTH"],body:=A0j (A1b (A0j (A1b PySem.Challenge.pw_np0073_01.main.body 12)) 3),scope:=A0p (A1b (A0j (A1b PySem.Challenge.pw_np0073_01.main.body 12)) 3),cdv:= .ref 89}
noncomputable def A4b:FnI:={a:=97,qual:= "Window.shown",ps:= ["self"],dfl:= [],nam:= ["self"],cnm:= [],glb:= [],body:=A0j (A1b (A0j (A1b PySem.Challenge.pw_np0073_01.main.body 12)) 4),scope:=A0p (A1b (A0j (A1b PySem.Challenge.pw_np0073_01.main.body 12)) 4),cdv:= .ref 96}
noncomputable def A4v:FnI:={a:=104,qual:= "Window.show",ps:= ["self","told"],dfl:= [],nam:= ["self","told"],cnm:= [],glb:= [],body:=A0j (A1b (A0j (A1b PySem.Challenge.pw_np0073_01.main.body 12)) 5),scope:=A0p (A1b (A0j (A1b PySem.Challenge.pw_np0073_01.main.body 12)) 5),cdv:= .ref 103}
noncomputable def A2l:FnI:={a:=126,qual:= "WindowTree.__init__",ps:= ["self","width","height","buffer","least_width","least_height"],dfl:= [],nam:= ["self","width","height","buffer","least_width","least_height","first"],cnm:= [],glb:= ["LEAF"],body:=A0j (A1b (A0j (A1b PySem.Challenge.pw_np0073_01.main.body 13)) 0),scope:=A0p (A1b (A0j (A1b PySem.Challenge.pw_np0073_01.main.body 13)) 0),cdv:= .ref 125}
noncomputable def A2b:FnI:={a:=133,qual:= "WindowTree.fresh",ps:= ["self","sort","parent"],dfl:= [],nam:= ["self","sort","parent","found"],cnm:= [],glb:= ["Window"],body:=A0j (A1b (A0j (A1b PySem.Challenge.pw_np0073_01.main.body 13)) 1),scope:=A0p (A1b (A0j (A1b PySem.Challenge.pw_np0073_01.main.body 13)) 1),cdv:= .ref 132}
noncomputable def A1v:FnI:={a:=140,qual:= "WindowTree.window",ps:= ["self","number"],dfl:= [],nam:= ["self","number","found"],cnm:= [],glb:= ["LispSignal"],body:=A0j (A1b (A0j (A1b PySem.Challenge.pw_np0073_01.main.body 13)) 2),scope:=A0p (A1b (A0j (A1b PySem.Challenge.pw_np0073_01.main.body 13)) 2),cdv:= .ref 139}
noncomputable def A2k:FnI:={a:=147,qual:= "WindowTree.leaf",ps:= ["self","number"],dfl:= [],nam:= ["self","number","found"],cnm:= [],glb:= ["LEAF","LispSignal"],body:=A0j (A1b (A0j (A1b PySem.Challenge.pw_np0073_01.main.body 13)) 3),scope:=A0p (A1b (A0j (A1b PySem.Challenge.pw_np0073_01.main.body 13)) 3),cdv:= .ref 146}
noncomputable def A2a:FnI:={a:=154,qual:= "WindowTree.touch",ps:= ["self","number"],dfl:= [],nam:= ["self","number"],cnm:= [],glb:= [],body:=A0j (A1b (A0j (A1b PySem.Challenge.pw_np0073_01.main.body 13)) 4),scope:=A0p (A1b (A0j (A1b PySem.Challenge.pw_np0073_01.main.body 13)) 4),cdv:= .ref 153}
noncomputable def A1w:FnI:={a:=161,qual:= "WindowTree.select",ps:= ["self","number"],dfl:= [],nam:= ["self","number"],cnm:= [],glb:= [],body:=A0j (A1b (A0j (A1b PySem.Challenge.pw_np0073_01.main.body 13)) 5),scope:=A0p (A1b (A0j (A1b PySem.Challenge.pw_np0073_01.main.body 13)) 5),cdv:= .ref 160}
noncomputable def A1e:FnI:={a:=168,qual:= "WindowTree.least_leaf",ps:= ["self","axis"],dfl:= [],nam:= ["self","axis"],cnm:= [],glb:= ["WIDTH"],body:=A0j (A1b (A0j (A1b PySem.Challenge.pw_np0073_01.main.body 13)) 6),scope:=A0p (A1b (A0j (A1b PySem.Challenge.pw_np0073_01.main.body 13)) 6),cdv:= .ref 167}
noncomputable def B5b:FnI:={a:=189,qual:= "along",ps:= ["sort"],dfl:= [],nam:= ["sort"],cnm:= [],glb:= ["ROW","WIDTH","HEIGHT"],body:=A0j (A1b PySem.Challenge.pw_np0073_01.main.body 14),scope:=A0p (A1b PySem.Challenge.pw_np0073_01.main.body 14),cdv:= .ref 188}
noncomputable def A5o:FnI:={a:=196,qual:= "sort_along",ps:= ["axis"],dfl:= [],nam:= ["axis"],cnm:= [],glb:= ["WIDTH","ROW","COLUMN"],body:=A0j (A1b PySem.Challenge.pw_np0073_01.main.body 15),scope:=A0p (A1b PySem.Challenge.pw_np0073_01.main.body 15),cdv:= .ref 195}
noncomputable def A3z:FnI:={a:=203,qual:= "leaves_under",ps:= ["tree","number"],dfl:= [],nam:= ["tree","number","found","waiting","here"],cnm:= [],glb:= ["LEAF"],body:=A0j (A1b PySem.Challenge.pw_np0073_01.main.body 16),scope:=A0p (A1b PySem.Challenge.pw_np0073_01.main.body 16),cdv:= .ref 202}
noncomputable def B1h:FnI:={a:=210,qual:= "leaves",ps:= ["tree"],dfl:= [],nam:= ["tree"],cnm:= [],glb:= ["leaves_under"],body:=A0j (A1b PySem.Challenge.pw_np0073_01.main.body 17),scope:=A0p (A1b PySem.Challenge.pw_np0073_01.main.body 17),cdv:= .ref 209}
noncomputable def A3f:FnI:={a:=217,qual:= "windows_under",ps:= ["tree","number"],dfl:= [],nam:= ["tree","number","found","waiting","here"],cnm:= [],glb:= [],body:=A0j (A1b PySem.Challenge.pw_np0073_01.main.body 18),scope:=A0p (A1b PySem.Challenge.pw_np0073_01.main.body 18),cdv:= .ref 216}
noncomputable def A3h:FnI:={a:=224,qual:= "replace_child",ps:= ["tree","old","new"],dfl:= [],nam:= ["tree","old","new","parent","children"],cnm:= [],glb:= [],body:=A0j (A1b PySem.Challenge.pw_np0073_01.main.body 19),scope:=A0p (A1b PySem.Challenge.pw_np0073_01.main.body 19),cdv:= .ref 223}
noncomputable def A5q:FnI:={a:=229,qual:= "least_size",ps:= ["tree","number","axis"],dfl:= [],nam:= ["tree","number","axis","own","here"],cnm:= ["found"],glb:= ["windows_under","LEAF","along","sum","max"],body:=A0j (A1b PySem.Challenge.pw_np0073_01.main.body 21),scope:=A0p (A1b PySem.Challenge.pw_np0073_01.main.body 21),cdv:= .ref 228}
noncomputable def A3g:FnI:={a:=239,qual:= "set_tree_size",ps:= ["tree","number","axis","size"],dfl:= [],nam:= ["number","size","waiting","own","much","here","child","leasts","spare","part"],cnm:= ["tree","axis"],glb:= ["LEAF","along","zip","shares"],body:=A0j (A1b PySem.Challenge.pw_np0073_01.main.body 23),scope:=A0p (A1b PySem.Challenge.pw_np0073_01.main.body 23),cdv:= .ref 238}
noncomputable def A5p:FnI:={a:=246,qual:= "set_places",ps:= ["tree"],dfl:= [],nam:= ["tree","waiting","number","left","top","here","child"],cnm:= [],glb:= ["along","WIDTH"],body:=A0j (A1b PySem.Challenge.pw_np0073_01.main.body 24),scope:=A0p (A1b PySem.Challenge.pw_np0073_01.main.body 24),cdv:= .ref 245}
noncomputable def A3y:FnI:={a:=253,qual:= "wrong_window",ps:= ["tree","number"],dfl:= [],nam:= ["tree","number","here","axis","at","child","own"],cnm:= [],glb:= ["LEAF","len","along"],body:=A0j (A1b PySem.Challenge.pw_np0073_01.main.body 25),scope:=A0p (A1b PySem.Challenge.pw_np0073_01.main.body 25),cdv:= .ref 252}
noncomputable def A5n:FnI:={a:=260,qual:= "tree_error",ps:= ["tree"],dfl:= [],nam:= ["tree","root","found","number","word"],cnm:= [],glb:= ["windows_under","wrong_window","sorted","leaves_under"],body:=A0j (A1b PySem.Challenge.pw_np0073_01.main.body 26),scope:=A0p (A1b PySem.Challenge.pw_np0073_01.main.body 26),cdv:= .ref 259}
noncomputable def A1d:FnI:={a:=267,qual:= "split_parts",ps:= ["tree","number","size","axis"],dfl:= [],nam:= ["tree","number","size","axis","whole","new","old"],cnm:= [],glb:= ["least_size","LispSignal"],body:=A0j (A1b PySem.Challenge.pw_np0073_01.main.body 28),scope:=A0p (A1b PySem.Challenge.pw_np0073_01.main.body 28),cdv:= .ref 266}
noncomputable def A4h:FnI:={a:=274,qual:= "combined",ps:= ["tree","number","axis"],dfl:= [],nam:= ["tree","number","axis","here","around"],cnm:= [],glb:= ["along","sort_along","replace_child"],body:=A0j (A1b PySem.Challenge.pw_np0073_01.main.body 29),scope:=A0p (A1b PySem.Challenge.pw_np0073_01.main.body 29),cdv:= .ref 273}
noncomputable def A6v:FnI:={a:=281,qual:= "split",ps:= ["tree","number","size","axis","is_ahead"],dfl:= [],nam:= ["tree","number","size","axis","is_ahead","old","new","parent","model","found","children","at"],cnm:= [],glb:= ["split_parts","combined","leaves_under","LEAF","list","set_tree_size","joined","set_places"],body:=A0j (A1b PySem.Challenge.pw_np0073_01.main.body 30),scope:=A0p (A1b PySem.Challenge.pw_np0073_01.main.body 30),cdv:= .ref 280}
noncomputable def B1i:FnI:={a:=288,qual:= "joined",ps:= ["tree","number"],dfl:= [],nam:= ["tree","number","here","found","child","own"],cnm:= [],glb:= [],body:=A0j (A1b PySem.Challenge.pw_np0073_01.main.body 31),scope:=A0p (A1b PySem.Challenge.pw_np0073_01.main.body 31),cdv:= .ref 287}
noncomputable def A3o:FnI:={a:=296,qual:= "split_below",ps:= ["tree","number","size"],dfl:= [.none],nam:= ["tree","number","size"],cnm:= [],glb:= ["split","HEIGHT"],body:=A0j (A1b PySem.Challenge.pw_np0073_01.main.body 32),scope:=A0p (A1b PySem.Challenge.pw_np0073_01.main.body 32),cdv:= .ref 295}
noncomputable def A3n:FnI:={a:=304,qual:= "split_right",ps:= ["tree","number","size"],dfl:= [.none],nam:= ["tree","number","size"],cnm:= [],glb:= ["split","WIDTH"],body:=A0j (A1b PySem.Challenge.pw_np0073_01.main.body 33),scope:=A0p (A1b PySem.Challenge.pw_np0073_01.main.body 33),cdv:= .ref 303}
noncomputable def A5t:FnI:={a:=319,qual:= "Rules.__init__",ps:= ["self","rows","columns"],dfl:= [],nam:= ["self","rows","columns"],cnm:= [],glb:= [],body:=A0j (A1b (A0j (A1b PySem.Challenge.pw_np0073_01.main.body 35)) 0),scope:=A0p (A1b (A0j (A1b PySem.Challenge.pw_np0073_01.main.body 35)) 0),cdv:= .ref 318}
noncomputable def A5m:FnI:={a:=331,qual:= "windows_of",ps:= ["tree","buffer"],dfl:= [],nam:= [],cnm:= ["tree","buffer"],glb:= ["leaves"],body:=A0j (A1b PySem.Challenge.pw_np0073_01.main.body 36),scope:=A0p (A1b PySem.Challenge.pw_np0073_01.main.body 36),cdv:= .ref 330}
noncomputable def A9d:FnI:={a:=336,qual:= "without",ps:= ["rows","buffer"],dfl:= [],nam:= ["rows"],cnm:= ["buffer"],glb:= [],body:=A0j (A1b PySem.Challenge.pw_np0073_01.main.body 37),scope:=A0p (A1b PySem.Challenge.pw_np0073_01.main.body 37),cdv:= .ref 335}
noncomputable def A4s:FnI:={a:=342,qual:= "show_buffer",ps:= ["tree","number","buffer","start","point"],dfl:= [.int 1,.int 1],nam:= ["tree","number","start","point","here","again"],cnm:= ["buffer"],glb:= ["LispSignal","without"],body:=A0j (A1b PySem.Challenge.pw_np0073_01.main.body 38),scope:=A0p (A1b PySem.Challenge.pw_np0073_01.main.body 38),cdv:= .ref 341}
noncomputable def A6u:FnI:={a:=349,qual:= "split_for",ps:= ["tree","number","rules"],dfl:= [],nam:= ["tree","number","rules","here"],cnm:= [],glb:= ["max","split_below","split_right"],body:=A0j (A1b PySem.Challenge.pw_np0073_01.main.body 39),scope:=A0p (A1b PySem.Challenge.pw_np0073_01.main.body 39),cdv:= .ref 348}
noncomputable def A2i:FnI:={a:=356,qual:= "split_somewhere",ps:= ["tree","rules"],dfl:= [],nam:= ["tree","rules","found","number","new"],cnm:= [],glb:= ["leaves","largest_leaf","oldest_leaf","split_for","len","Rules"],body:=A0j (A1b PySem.Challenge.pw_np0073_01.main.body 40),scope:=A0p (A1b PySem.Challenge.pw_np0073_01.main.body 40),cdv:= .ref 355}
noncomputable def B1g:FnI:={a:=361,qual:= "usable",ps:= ["tree"],dfl:= [],nam:= [],cnm:= ["tree"],glb:= ["leaves"],body:=A0j (A1b PySem.Challenge.pw_np0073_01.main.body 41),scope:=A0p (A1b PySem.Challenge.pw_np0073_01.main.body 41),cdv:= .ref 360}
noncomputable def A2r:FnI:={a:=367,qual:= "display_buffer",ps:= ["tree","buffer","rules","may_be_selected"],dfl:= [.bool false],nam:= ["buffer","rules","known","found"],cnm:= ["tree","may_be_selected"],glb:= ["windows_of","show_buffer","split_somewhere","oldest_leaf","usable"],body:=A0j (A1b PySem.Challenge.pw_np0073_01.main.body 42),scope:=A0p (A1b PySem.Challenge.pw_np0073_01.main.body 42),cdv:= .ref 366}
noncomputable def A3i:FnI:={a:=374,qual:= "pop_to_buffer",ps:= ["tree","buffer","rules"],dfl:= [],nam:= ["tree","buffer","rules","found"],cnm:= [],glb:= ["display_buffer","LispSignal"],body:=A0j (A1b PySem.Challenge.pw_np0073_01.main.body 43),scope:=A0p (A1b PySem.Challenge.pw_np0073_01.main.body 43),cdv:= .ref 373}
noncomputable def A7t:FnI:={a:=381,qual:= "_law_draw",ps:= ["deck","many"],dfl:= [],nam:= ["deck","many"],cnm:= [],glb:= ["len"],body:=A0j (A1b PySem.Challenge.pw_np0073_01.main.body 45),scope:=A0p (A1b PySem.Challenge.pw_np0073_01.main.body 45),cdv:= .ref 380}
noncomputable def A5r:FnI:={a:=388,qual:= "_law_splits",ps:= ["shown_window","row_rule","columns"],dfl:= [],nam:= ["shown_window","row_rule","columns"],cnm:= [],glb:= ["max"],body:=A0j (A1b PySem.Challenge.pw_np0073_01.main.body 46),scope:=A0p (A1b PySem.Challenge.pw_np0073_01.main.body 46),cdv:= .ref 387}
noncomputable def A5s:FnI:={a:=393,qual:= "_law_chosen",ps:= ["tree","buffer","row_rule","columns"],dfl:= [],nam:= ["row_rule","columns","found","own","known","areas","oldest","side","rest"],cnm:= ["tree","buffer"],glb:= ["leaves","sorted","max","_law_splits","len"],body:=A0j (A1b PySem.Challenge.pw_np0073_01.main.body 47),scope:=A0p (A1b PySem.Challenge.pw_np0073_01.main.body 47),cdv:= .ref 392}
noncomputable def A1h:FnI:={a:=398,qual:= "law",ps:= ["script"],dfl:= [],nam:= ["script","deck","lap","found","number","axis","shown_window","buffer","row_rule","columns","due","selected","ahead","answer","old","new"],cnm:= ["tree"],glb:= ["WindowTree","_law_draw","range","leaves","len","HEIGHT","WIDTH","split","LispSignal","_law_chosen","pop_to_buffer","Rules","display_buffer","tree_error"],body:=A0j (A1b PySem.Challenge.pw_np0073_01.main.body 48),scope:=A0p (A1b PySem.Challenge.pw_np0073_01.main.body 48),cdv:= .ref 397}
structure PG (S:SP):Prop where
 ok:SOK S
 f_oldest_leaf:FnOK S A4t
 g_oldest_leaf:S.mg "oldest_leaf"=some (.ref 28)
 f_largest_leaf:FnOK S A4a
 g_largest_leaf:S.mg "largest_leaf"=some (.ref 35)
 f_LispSignal_init:FnOK S A0n
 f_Window_init:FnOK S A4w
 f_Window_size:FnOK S A4u
 m_Window_size:A2m S.K S.CW "size" 76=true
 f_Window_set_size:FnOK S A2j
 m_Window_set_size:A2m S.K S.CW "set_size" 83=true
 f_Window_place:FnOK S A4c
 m_Window_place:A2m S.K S.CW "place" 90=true
 f_Window_shown:FnOK S A4b
 m_Window_shown:A2m S.K S.CW "shown" 97=true
 f_Window_show:FnOK S A4v
 m_Window_show:A2m S.K S.CW "show" 104=true
 f_WindowTree_init:FnOK S A2l
 f_WindowTree_fresh:FnOK S A2b
 m_WindowTree_fresh:A2m S.K S.CT "fresh" 133=true
 f_WindowTree_window:FnOK S A1v
 m_WindowTree_window:A2m S.K S.CT "window" 140=true
 f_WindowTree_leaf:FnOK S A2k
 m_WindowTree_leaf:A2m S.K S.CT "leaf" 147=true
 f_WindowTree_touch:FnOK S A2a
 m_WindowTree_touch:A2m S.K S.CT "touch" 154=true
 f_WindowTree_select:FnOK S A1w
 m_WindowTree_select:A2m S.K S.CT "select" 161=true
 f_WindowTree_least_leaf:FnOK S A1e
 m_WindowTree_least_leaf:A2m S.K S.CT "least_leaf" 168=true
 f_along:FnOK S B5b
 g_along:S.mg "along"=some (.ref 189)
 f_sort_along:FnOK S A5o
 g_sort_along:S.mg "sort_along"=some (.ref 196)
 f_leaves_under:FnOK S A3z
 g_leaves_under:S.mg "leaves_under"=some (.ref 203)
 f_leaves:FnOK S B1h
 g_leaves:S.mg "leaves"=some (.ref 210)
 f_windows_under:FnOK S A3f
 g_windows_under:S.mg "windows_under"=some (.ref 217)
 f_replace_child:FnOK S A3h
 g_replace_child:S.mg "replace_child"=some (.ref 224)
 f_least_size:FnOK S A5q
 g_least_size:S.mg "least_size"=some (.ref 229)
 f_set_tree_size:FnOK S A3g
 g_set_tree_size:S.mg "set_tree_size"=some (.ref 239)
 f_set_places:FnOK S A5p
 g_set_places:S.mg "set_places"=some (.ref 246)
 f_wrong_window:FnOK S A3y
 g_wrong_window:S.mg "wrong_window"=some (.ref 253)
 f_tree_error:FnOK S A5n
 g_tree_error:S.mg "tree_error"=some (.ref 260)
 f_split_parts:FnOK S A1d
 g_split_parts:S.mg "split_parts"=some (.ref 267)
 f_combined:FnOK S A4h
 g_combined:S.mg "combined"=some (.ref 274)
 f_split:FnOK S A6v
 g_split:S.mg "split"=some (.ref 281)
 f_joined:FnOK S B1i
 g_joined:S.mg "joined"=some (.ref 288)
 f_split_below:FnOK S A3o
 g_split_below:S.mg "split_below"=some (.ref 296)
 f_split_right:FnOK S A3n
 g_split_right:S.mg "split_right"=some (.ref 304)
 f_Rules_init:FnOK S A5t
 f_windows_of:FnOK S A5m
 g_windows_of:S.mg "windows_of"=some (.ref 331)
 f_without:FnOK S A9d
 g_without:S.mg "without"=some (.ref 336)
 f_show_buffer:FnOK S A4s
 g_show_buffer:S.mg "show_buffer"=some (.ref 342)
 f_split_for:FnOK S A6u
 g_split_for:S.mg "split_for"=some (.ref 349)
 f_split_somewhere:FnOK S A2i
 g_split_somewhere:S.mg "split_somewhere"=some (.ref 356)
 f_usable:FnOK S B1g
 g_usable:S.mg "usable"=some (.ref 361)
 f_display_buffer:FnOK S A2r
 g_display_buffer:S.mg "display_buffer"=some (.ref 367)
 f_pop_to_buffer:FnOK S A3i
 g_pop_to_buffer:S.mg "pop_to_buffer"=some (.ref 374)
 f_law_draw:FnOK S A7t
 g_law_draw:S.mg "_law_draw"=some (.ref 381)
 f_law_splits:FnOK S A5r
 g_law_splits:S.mg "_law_splits"=some (.ref 388)
 f_law_chosen:FnOK S A5s
 g_law_chosen:S.mg "_law_chosen"=some (.ref 393)
 f_law:FnOK S A1h
 g_law:S.mg "law"=some (.ref 398)
 c_LEAF: ∃tk,S.mg "LEAF"=some (.int 0 tk)
 c_COLUMN: ∃tk,S.mg "COLUMN"=some (.int 1 tk)
 c_ROW: ∃tk,S.mg "ROW"=some (.int 2 tk)
 c_WIDTH: ∃tk,S.mg "WIDTH"=some (.int 0 tk)
 c_HEIGHT: ∃tk,S.mg "HEIGHT"=some (.int 1 tk)
 b_len:S.mg "len"=none∧S.mb "len"=some (.builtin "len")
 b_sum:S.mg "sum"=none∧S.mb "sum"=some (.builtin "sum")
 b_max:S.mg "max"=none∧S.mb "max"=some (.builtin "max")
 b_sorted:S.mg "sorted"=none∧S.mb "sorted"=some (.builtin "sorted")
 b_abs:S.mg "abs"=none∧S.mb "abs"=some (.builtin "abs")
 b_list:S.mg "list"=none∧S.mb "list"=some (.type "list")
 b_range:S.mg "range"=none∧S.mb "range"=some (.type "range")
 k_Window:S.mg "Window"=some (.ref S.CW)∧keepIn S.K (.ref S.CW)=true∧makesIn S.K S.CW=true∧findIn S.K (.ref S.CW) "__init__"=some (some (.ref 69))∧isFn S.K (.ref 69)=true
 k_WindowTree:S.mg "WindowTree"=some (.ref S.CT)∧keepIn S.K (.ref S.CT)=true∧makesIn S.K S.CT=true∧findIn S.K (.ref S.CT) "__init__"=some (some (.ref 126))∧isFn S.K (.ref 126)=true
 k_Rules:S.mg "Rules"=some (.ref S.CR)∧keepIn S.K (.ref S.CR)=true∧makesIn S.K S.CR=true∧findIn S.K (.ref S.CR) "__init__"=some (some (.ref 319))∧isFn S.K (.ref 319)=true
 k_LispSignal:S.mg "LispSignal"=some (.ref S.CL)
 at_:S.CW=107∧S.CT=178∧S.CR=322∧S.CL=52
section
variable {S:SP} {d:Nat} {r:Bool} {env:Env} {X:St→Prop} {fid:Nat} {nam:List Str} {cfid:Nat} {cnm:List Str} {glb:List Str} {dk:Option (List Int×Int)} {nw:Option (Int×Nat×Win)} {rl:Option (Nat×Nat×Int×Int)} {tb:Bool} {cel:List (Option AV)} {tmp:List (Option CO)} {tr:Option Tree} {loc:List (Option AV)} {σ:St} {t:Tree} {n:Int} {w:Win}
noncomputable def Win.s_parent(w:Win)(x:Int):Win:={w with parent:=x}
noncomputable def Win.s_left(w:Win)(x:Int):Win:={w with left:=x}
noncomputable def Win.s_top(w:Win)(x:Int):Win:={w with top:=x}
noncomputable def Win.s_width(w:Win)(x:Int):Win:={w with width:=x}
noncomputable def Win.s_height(w:Win)(x:Int):Win:={w with height:=x}
noncomputable def Win.s_buf(w:Win)(x:Int):Win:={w with buf:=x}
noncomputable def Win.s_start(w:Win)(x:Int):Win:={w with start:=x}
noncomputable def Win.s_point(w:Win)(x:Int):Win:={w with point:=x}
noncomputable def Win.s_hscroll(w:Win)(x:Int):Win:={w with hscroll:=x}
noncomputable def Win.s_use(w:Win)(x:Int):Win:={w with use:=x}
noncomputable def Win.s_kids(w:Win)(x:List Int):Win:={w with kids:=x}
noncomputable def Win.s_ded(w:Win)(x:Bool):Win:={w with ded:=x}
noncomputable def Win.s_ver(w:Win)(x:Nat):Win:={w with ver:=x}
noncomputable def Win.s_ear(w:Win)(x:AV):Win:={w with ear:=x}
noncomputable def Win.s_lat(w:Win)(x:AV):Win:={w with lat:=x}
noncomputable def Tree.s_last(t:Tree)(x:Int):Tree:={t with last:=x}
@[simp] theorem Tree.get_s_last (t:Tree) (x n:Int):(t.s_last x).get n=t.get n:=rfl
theorem Tree.S5.s_last{t:Tree}{x:Int}(h:t.S5):(t.s_last x).S5:=h
noncomputable def Tree.s_clock(t:Tree)(x:Int):Tree:={t with clock:=x}
@[simp] theorem Tree.get_s_clock (t:Tree) (x n:Int):(t.s_clock x).get n=t.get n:=rfl
theorem Tree.S5.s_clock{t:Tree}{x:Int}(h:t.S5):(t.s_clock x).S5:=h
noncomputable def Tree.s_root(t:Tree)(x:Int):Tree:={t with root:=x}
@[simp] theorem Tree.get_s_root (t:Tree) (x n:Int):(t.s_root x).get n=t.get n:=rfl
theorem Tree.S5.s_root{t:Tree}{x:Int}(h:t.S5):(t.s_root x).S5:=h
noncomputable def Tree.s_sel(t:Tree)(x:Int):Tree:={t with sel:=x}
@[simp] theorem Tree.get_s_sel (t:Tree) (x n:Int):(t.s_sel x).get n=t.get n:=rfl
theorem Tree.S5.s_sel{t:Tree}{x:Int}(h:t.S5):(t.s_sel x).S5:=h
theorem Tree.S5.put{t:Tree}{n:Int}{w:Win}(h:t.S5):(t.put n w).S5:=h
theorem Tree.S5.add{t:Tree}{n:Int}{w:Win}(h:t.S5):(t.add n w).S5:=h
theorem D3v{ex:Bool}{Q:AV→St→Prop}(h2:t.get n=some w)(h:Q (.int n) (St.mk (some t) dk nw rl tb fid nam loc tmp cfid cnm cel glb)):W1 S d r env (RV S) (RV S) (fun v=>getAttr v (Str.ofString "number") ex) (.ref (.win n)) (St.mk (some t) dk nw rl tb fid nam loc tmp cfid cnm cel glb) Q X:=A2q rfl h2 h
theorem D5p{ex:Bool}{Q:AV→St→Prop}(h2:t.get n=some w)(h:Q (.int w.sort) (St.mk (some t) dk nw rl tb fid nam loc tmp cfid cnm cel glb)):W1 S d r env (RV S) (RV S) (fun v=>getAttr v (Str.ofString "sort") ex) (.ref (.win n)) (St.mk (some t) dk nw rl tb fid nam loc tmp cfid cnm cel glb) Q X:=A4g rfl h2 h
theorem D3u{ex:Bool}{Q:AV→St→Prop}(h2:t.get n=some w)(h:Q (.int w.parent) (St.mk (some t) dk nw rl tb fid nam loc tmp cfid cnm cel glb)):W1 S d r env (RV S) (RV S) (fun v=>getAttr v (Str.ofString "parent") ex) (.ref (.win n)) (St.mk (some t) dk nw rl tb fid nam loc tmp cfid cnm cel glb) Q X:=A3v rfl h2 h
theorem B8m{i:Int}{Q:Unit→St→Prop}(h2:t.get n=some w)(h:Q () (St.mk (some (t.put n (w.s_parent i))) dk nw rl tb fid nam loc tmp cfid cnm cel glb)):W1 S d r env (R2 S) RU (fun v:Value×Value=>setAttr v.1 (Str.ofString "parent") v.2) (.ref (.win n),.int i) (St.mk (some t) dk nw rl tb fid nam loc tmp cfid cnm cel glb) Q X:=C4n rfl h2 h
theorem D1m{ex:Bool}{Q:AV→St→Prop}(h2:t.get n=some w)(h:Q (.ref (.kid n w.ver)) (St.mk (some t) dk nw rl tb fid nam loc tmp cfid cnm cel glb)):W1 S d r env (RV S) (RV S) (fun v=>getAttr v (Str.ofString "children") ex) (.ref (.win n)) (St.mk (some t) dk nw rl tb fid nam loc tmp cfid cnm cel glb) Q X:=A2f rfl h2 h
theorem D5q{ex:Bool}{Q:AV→St→Prop}(h2:t.get n=some w)(h:Q (.int w.left) (St.mk (some t) dk nw rl tb fid nam loc tmp cfid cnm cel glb)):W1 S d r env (RV S) (RV S) (fun v=>getAttr v (Str.ofString "left") ex) (.ref (.win n)) (St.mk (some t) dk nw rl tb fid nam loc tmp cfid cnm cel glb) Q X:=B1v rfl h2 h
theorem C9i{i:Int}{Q:Unit→St→Prop}(h2:t.get n=some w)(h:Q () (St.mk (some (t.put n (w.s_left i))) dk nw rl tb fid nam loc tmp cfid cnm cel glb)):W1 S d r env (R2 S) RU (fun v:Value×Value=>setAttr v.1 (Str.ofString "left") v.2) (.ref (.win n),.int i) (St.mk (some t) dk nw rl tb fid nam loc tmp cfid cnm cel glb) Q X:=C9x rfl h2 h
theorem D6g{ex:Bool}{Q:AV→St→Prop}(h2:t.get n=some w)(h:Q (.int w.top) (St.mk (some t) dk nw rl tb fid nam loc tmp cfid cnm cel glb)):W1 S d r env (RV S) (RV S) (fun v=>getAttr v (Str.ofString "top") ex) (.ref (.win n)) (St.mk (some t) dk nw rl tb fid nam loc tmp cfid cnm cel glb) Q X:=B6k rfl h2 h
theorem D3g{i:Int}{Q:Unit→St→Prop}(h2:t.get n=some w)(h:Q () (St.mk (some (t.put n (w.s_top i))) dk nw rl tb fid nam loc tmp cfid cnm cel glb)):W1 S d r env (R2 S) RU (fun v:Value×Value=>setAttr v.1 (Str.ofString "top") v.2) (.ref (.win n),.int i) (St.mk (some t) dk nw rl tb fid nam loc tmp cfid cnm cel glb) Q X:=D1u rfl h2 h
theorem D4z{ex:Bool}{Q:AV→St→Prop}(h2:t.get n=some w)(h:Q (.int w.width) (St.mk (some t) dk nw rl tb fid nam loc tmp cfid cnm cel glb)):W1 S d r env (RV S) (RV S) (fun v=>getAttr v (Str.ofString "width") ex) (.ref (.win n)) (St.mk (some t) dk nw rl tb fid nam loc tmp cfid cnm cel glb) Q X:=A4p rfl h2 h
theorem B8k{i:Int}{Q:Unit→St→Prop}(h2:t.get n=some w)(h:Q () (St.mk (some (t.put n (w.s_width i))) dk nw rl tb fid nam loc tmp cfid cnm cel glb)):W1 S d r env (R2 S) RU (fun v:Value×Value=>setAttr v.1 (Str.ofString "width") v.2) (.ref (.win n),.int i) (St.mk (some t) dk nw rl tb fid nam loc tmp cfid cnm cel glb) Q X:=C6r rfl h2 h
theorem D3w{ex:Bool}{Q:AV→St→Prop}(h2:t.get n=some w)(h:Q (.int w.height) (St.mk (some t) dk nw rl tb fid nam loc tmp cfid cnm cel glb)):W1 S d r env (RV S) (RV S) (fun v=>getAttr v (Str.ofString "height") ex) (.ref (.win n)) (St.mk (some t) dk nw rl tb fid nam loc tmp cfid cnm cel glb) Q X:=A3d rfl h2 h
theorem B3h{i:Int}{Q:Unit→St→Prop}(h2:t.get n=some w)(h:Q () (St.mk (some (t.put n (w.s_height i))) dk nw rl tb fid nam loc tmp cfid cnm cel glb)):W1 S d r env (R2 S) RU (fun v:Value×Value=>setAttr v.1 (Str.ofString "height") v.2) (.ref (.win n),.int i) (St.mk (some t) dk nw rl tb fid nam loc tmp cfid cnm cel glb) Q X:=C4o rfl h2 h
theorem D3x{ex:Bool}{Q:AV→St→Prop}(h2:t.get n=some w)(h:Q (.int w.buf) (St.mk (some t) dk nw rl tb fid nam loc tmp cfid cnm cel glb)):W1 S d r env (RV S) (RV S) (fun v=>getAttr v (Str.ofString "buffer") ex) (.ref (.win n)) (St.mk (some t) dk nw rl tb fid nam loc tmp cfid cnm cel glb) Q X:=A6r rfl h2 h
theorem C2h{i:Int}{Q:Unit→St→Prop}(h2:t.get n=some w)(h:Q () (St.mk (some (t.put n (w.s_buf i))) dk nw rl tb fid nam loc tmp cfid cnm cel glb)):W1 S d r env (R2 S) RU (fun v:Value×Value=>setAttr v.1 (Str.ofString "buffer") v.2) (.ref (.win n),.int i) (St.mk (some t) dk nw rl tb fid nam loc tmp cfid cnm cel glb) Q X:=C4p rfl h2 h
theorem D5a{ex:Bool}{Q:AV→St→Prop}(h2:t.get n=some w)(h:Q (.int w.start) (St.mk (some t) dk nw rl tb fid nam loc tmp cfid cnm cel glb)):W1 S d r env (RV S) (RV S) (fun v=>getAttr v (Str.ofString "start") ex) (.ref (.win n)) (St.mk (some t) dk nw rl tb fid nam loc tmp cfid cnm cel glb) Q X:=C1w rfl h2 h
theorem D0y{i:Int}{Q:Unit→St→Prop}(h2:t.get n=some w)(h:Q () (St.mk (some (t.put n (w.s_start i))) dk nw rl tb fid nam loc tmp cfid cnm cel glb)):W1 S d r env (R2 S) RU (fun v:Value×Value=>setAttr v.1 (Str.ofString "start") v.2) (.ref (.win n),.int i) (St.mk (some t) dk nw rl tb fid nam loc tmp cfid cnm cel glb) Q X:=C6s rfl h2 h
theorem D5b{ex:Bool}{Q:AV→St→Prop}(h2:t.get n=some w)(h:Q (.int w.point) (St.mk (some t) dk nw rl tb fid nam loc tmp cfid cnm cel glb)):W1 S d r env (RV S) (RV S) (fun v=>getAttr v (Str.ofString "point") ex) (.ref (.win n)) (St.mk (some t) dk nw rl tb fid nam loc tmp cfid cnm cel glb) Q X:=C1x rfl h2 h
theorem D0z{i:Int}{Q:Unit→St→Prop}(h2:t.get n=some w)(h:Q () (St.mk (some (t.put n (w.s_point i))) dk nw rl tb fid nam loc tmp cfid cnm cel glb)):W1 S d r env (R2 S) RU (fun v:Value×Value=>setAttr v.1 (Str.ofString "point") v.2) (.ref (.win n),.int i) (St.mk (some t) dk nw rl tb fid nam loc tmp cfid cnm cel glb) Q X:=C6t rfl h2 h
theorem D3j{ex:Bool}{Q:AV→St→Prop}(h2:t.get n=some w)(h:Q (.int w.hscroll) (St.mk (some t) dk nw rl tb fid nam loc tmp cfid cnm cel glb)):W1 S d r env (RV S) (RV S) (fun v=>getAttr v (Str.ofString "hscroll") ex) (.ref (.win n)) (St.mk (some t) dk nw rl tb fid nam loc tmp cfid cnm cel glb) Q X:=B6l rfl h2 h
theorem C6c{i:Int}{Q:Unit→St→Prop}(h2:t.get n=some w)(h:Q () (St.mk (some (t.put n (w.s_hscroll i))) dk nw rl tb fid nam loc tmp cfid cnm cel glb)):W1 S d r env (R2 S) RU (fun v:Value×Value=>setAttr v.1 (Str.ofString "hscroll") v.2) (.ref (.win n),.int i) (St.mk (some t) dk nw rl tb fid nam loc tmp cfid cnm cel glb) Q X:=C2n rfl h2 h
theorem C6i{ex:Bool}{Q:AV→St→Prop}(h2:t.get n=some w)(h:Q (.bool w.ded) (St.mk (some t) dk nw rl tb fid nam loc tmp cfid cnm cel glb)):W1 S d r env (RV S) (RV S) (fun v=>getAttr v (Str.ofString "is_dedicated") ex) (.ref (.win n)) (St.mk (some t) dk nw rl tb fid nam loc tmp cfid cnm cel glb) Q X:=A1m rfl h2 h
theorem B6a{i:Bool}{Q:Unit→St→Prop}(h2:t.get n=some w)(h:Q () (St.mk (some (t.put n (w.s_ded i))) dk nw rl tb fid nam loc tmp cfid cnm cel glb)):W1 S d r env (R2 S) RU (fun v:Value×Value=>setAttr v.1 (Str.ofString "is_dedicated") v.2) (.ref (.win n),.bool i) (St.mk (some t) dk nw rl tb fid nam loc tmp cfid cnm cel glb) Q X:=B3q rfl h2 h
theorem D1l{ex:Bool}{Q:AV→St→Prop}(h2:t.get n=some w)(h:Q (.int w.use) (St.mk (some t) dk nw rl tb fid nam loc tmp cfid cnm cel glb)):W1 S d r env (RV S) (RV S) (fun v=>getAttr v (Str.ofString "use_time") ex) (.ref (.win n)) (St.mk (some t) dk nw rl tb fid nam loc tmp cfid cnm cel glb) Q X:=B0g rfl h2 h
theorem C3l{i:Int}{Q:Unit→St→Prop}(h2:t.get n=some w)(h:Q () (St.mk (some (t.put n (w.s_use i))) dk nw rl tb fid nam loc tmp cfid cnm cel glb)):W1 S d r env (R2 S) RU (fun v:Value×Value=>setAttr v.1 (Str.ofString "use_time") v.2) (.ref (.win n),.int i) (St.mk (some t) dk nw rl tb fid nam loc tmp cfid cnm cel glb) Q X:=C0s rfl h2 h
theorem B1f{ex:Bool}{Q:AV→St→Prop}(h2:t.get n=some w)(hb:w.ear≠ .opq)(h:Q (w.ear) (St.mk (some t) dk nw rl tb fid nam loc tmp cfid cnm cel glb)):W1 S d r env (RV S) (RV S) (fun v=>getAttr v (Str.ofString "earlier") ex) (.ref (.win n)) (St.mk (some t) dk nw rl tb fid nam loc tmp cfid cnm cel glb) Q X:=C3c rfl h2 hb h
theorem B1e{i:AV}{Q:Unit→St→Prop}(h2:t.get n=some w)(h:Q () (St.mk (some (t.put n (w.s_ear i))) dk nw rl tb fid nam loc tmp cfid cnm cel glb)):W1 S d r env (R2 S) RU (fun v:Value×Value=>setAttr v.1 (Str.ofString "earlier") v.2) (.ref (.win n),i) (St.mk (some t) dk nw rl tb fid nam loc tmp cfid cnm cel glb) Q X:=C2o rfl h2 h
theorem D1c{ex:Bool}{Q:AV→St→Prop}(h2:t.get n=some w)(hb:w.lat≠ .opq)(h:Q (w.lat) (St.mk (some t) dk nw rl tb fid nam loc tmp cfid cnm cel glb)):W1 S d r env (RV S) (RV S) (fun v=>getAttr v (Str.ofString "later") ex) (.ref (.win n)) (St.mk (some t) dk nw rl tb fid nam loc tmp cfid cnm cel glb) Q X:=C8e rfl h2 hb h
theorem D1a{i:AV}{Q:Unit→St→Prop}(h2:t.get n=some w)(h:Q () (St.mk (some (t.put n (w.s_lat i))) dk nw rl tb fid nam loc tmp cfid cnm cel glb)):W1 S d r env (R2 S) RU (fun v:Value×Value=>setAttr v.1 (Str.ofString "later") v.2) (.ref (.win n),i) (St.mk (some t) dk nw rl tb fid nam loc tmp cfid cnm cel glb) Q X:=C6u rfl h2 h
theorem D3e{ex:Bool}{Q:AV→St→Prop}(hS:t.S5)(h:Q (.ref .wdic) (St.mk (some t) dk nw rl tb fid nam loc tmp cfid cnm cel glb)):W1 S d r env (RV S) (RV S) (fun v=>getAttr v (Str.ofString "windows") ex) (.ref .tree) (St.mk (some t) dk nw rl tb fid nam loc tmp cfid cnm cel glb) Q X:=A0s rfl hS h
theorem D5n{ex:Bool}{Q:AV→St→Prop}(hS:t.S5)(h:Q (.int t.last) (St.mk (some t) dk nw rl tb fid nam loc tmp cfid cnm cel glb)):W1 S d r env (RV S) (RV S) (fun v=>getAttr v (Str.ofString "last") ex) (.ref .tree) (St.mk (some t) dk nw rl tb fid nam loc tmp cfid cnm cel glb) Q X:=B7m rfl hS h
theorem D2z{i:Int}{Q:Unit→St→Prop}(hS:t.S5)(h:Q () (St.mk (some (t.s_last i)) dk nw rl tb fid nam loc tmp cfid cnm cel glb)):W1 S d r env (R2 S) RU (fun v:Value×Value=>setAttr v.1 (Str.ofString "last") v.2) (.ref .tree,.int i) (St.mk (some t) dk nw rl tb fid nam loc tmp cfid cnm cel glb) Q X:=C9u rfl hS h
theorem D4x{ex:Bool}{Q:AV→St→Prop}(hS:t.S5)(h:Q (.int t.clock) (St.mk (some t) dk nw rl tb fid nam loc tmp cfid cnm cel glb)):W1 S d r env (RV S) (RV S) (fun v=>getAttr v (Str.ofString "clock") ex) (.ref .tree) (St.mk (some t) dk nw rl tb fid nam loc tmp cfid cnm cel glb) Q X:=B7n rfl hS h
theorem D0u{i:Int}{Q:Unit→St→Prop}(hS:t.S5)(h:Q () (St.mk (some (t.s_clock i)) dk nw rl tb fid nam loc tmp cfid cnm cel glb)):W1 S d r env (R2 S) RU (fun v:Value×Value=>setAttr v.1 (Str.ofString "clock") v.2) (.ref .tree,.int i) (St.mk (some t) dk nw rl tb fid nam loc tmp cfid cnm cel glb) Q X:=C6p rfl hS h
theorem C8r{ex:Bool}{Q:AV→St→Prop}(hS:t.S5)(h:Q (.int t.lw) (St.mk (some t) dk nw rl tb fid nam loc tmp cfid cnm cel glb)):W1 S d r env (RV S) (RV S) (fun v=>getAttr v (Str.ofString "least_width") ex) (.ref .tree) (St.mk (some t) dk nw rl tb fid nam loc tmp cfid cnm cel glb) Q X:=A5g rfl hS h
theorem C6h{ex:Bool}{Q:AV→St→Prop}(hS:t.S5)(h:Q (.int t.lh) (St.mk (some t) dk nw rl tb fid nam loc tmp cfid cnm cel glb)):W1 S d r env (RV S) (RV S) (fun v=>getAttr v (Str.ofString "least_height") ex) (.ref .tree) (St.mk (some t) dk nw rl tb fid nam loc tmp cfid cnm cel glb) Q X:=A4o rfl hS h
theorem D5m{ex:Bool}{Q:AV→St→Prop}(hS:t.stg=7)(h:Q (.int t.root) (St.mk (some t) dk nw rl tb fid nam loc tmp cfid cnm cel glb)):W1 S d r env (RV S) (RV S) (fun v=>getAttr v (Str.ofString "root") ex) (.ref .tree) (St.mk (some t) dk nw rl tb fid nam loc tmp cfid cnm cel glb) Q X:=B1u rfl hS h
theorem D2y{i:Int}{Q:Unit→St→Prop}(hS:t.stg=7)(h:Q () (St.mk (some (t.s_root i)) dk nw rl tb fid nam loc tmp cfid cnm cel glb)):W1 S d r env (R2 S) RU (fun v:Value×Value=>setAttr v.1 (Str.ofString "root") v.2) (.ref .tree,.int i) (St.mk (some t) dk nw rl tb fid nam loc tmp cfid cnm cel glb) Q X:=C9t rfl hS h
theorem D1j{ex:Bool}{Q:AV→St→Prop}(hS:t.stg=7)(h:Q (.int t.sel) (St.mk (some t) dk nw rl tb fid nam loc tmp cfid cnm cel glb)):W1 S d r env (RV S) (RV S) (fun v=>getAttr v (Str.ofString "selected") ex) (.ref .tree) (St.mk (some t) dk nw rl tb fid nam loc tmp cfid cnm cel glb) Q X:=A1c rfl hS h
theorem C3d{i:Int}{Q:Unit→St→Prop}(hS:t.stg=7)(h:Q () (St.mk (some (t.s_sel i)) dk nw rl tb fid nam loc tmp cfid cnm cel glb)):W1 S d r env (R2 S) RU (fun v:Value×Value=>setAttr v.1 (Str.ofString "selected") v.2) (.ref .tree,.int i) (St.mk (some t) dk nw rl tb fid nam loc tmp cfid cnm cel glb) Q X:=C0p rfl hS h
theorem A0d{x:Str}{pos a}{Q:AV→St→Prop}(hx:Has σ.nam σ.loc x a)(h:Q a σ):W S d r env (RV S) (eval (.Name x pos) env) σ Q X:=A9q hx h
theorem A8v{x:Str}{pos a}{Q:AV→St→Prop}(hx:Has σ.cnm σ.cel x a)(h:Q a σ):W S d r env (RV S) (eval (.Name x pos) env) σ Q X:=C4d hx h
theorem A3p{x:Str}{pos}{i:Int}{tk:Tok}{Q:AV→St→Prop}(hx:x∈σ.glb)(hv:S.mg x=some (.int i tk))(h:Q (.int i) σ):W S d r env (RV S) (eval (.Name x pos) env) σ Q X:=C2j hx hv h
theorem A0k{x:Str}{a:AV}{l'}{K:St→Prop}(h:Put nam loc x a l')(k:K (St.mk tr dk nw rl tb fid nam (l') tmp cfid cnm cel glb)):A9c (St.mk (tr) dk nw rl tb fid nam loc tmp cfid cnm cel glb) x a K:=⟨l',h,k⟩
theorem D2p{x:Str}{a:AV}{l'}{K:St→Prop}(h:Put cnm cel x a l')(k:K (St.mk tr dk nw rl tb fid nam loc tmp cfid cnm (l') glb)):D5r (St.mk (tr) dk nw rl tb fid nam loc tmp cfid cnm cel glb) x a K:=⟨l',h,k⟩
theorem D6j{value slice:Expr}{Q:AV→St→Prop}(hS:t.S5)(h2:t.get n=some w)(hsl: ∀o i,subscripted slice false o i=operate [o,i] (getItem o i))(h:Q (.ref (.win n)) (St.mk (some t) dk nw rl tb fid nam loc tmp cfid cnm cel glb)):
  W1 S d r env (R2 S) (RV S) (fun v:Value×Value=>subscriptTail value slice v.1 v.2) (.ref .wdic,.int n) (St.mk (some t) dk nw rl tb fid nam loc tmp cfid cnm cel glb) Q X:=A6q rfl hS h2 hsl h
end
section
variable {S:SP} {d:Nat} {r:Bool} {env:Env} {X:St→Prop} {Q:AV→St→Prop}
variable {tr:Option Tree} {dk:Option (List Int×Int)} {nw:Option (Int×Nat×Win)} {rl:Option (Nat×Nat×Int×Int)} {tb:Bool} {fid:Nat} {nam:List Str} {loc:List (Option AV)} {tmp:List (Option CO)} {cfid:Nat} {cnm:List Str} {cel:List (Option AV)} {glb:List Str}
theorem B5q(G:PG S){a1 a2:AV}(h: ∀L,W S d false (A4t.env L) (RF S) (execs A4t.body (A4t.env L)) (St.mk tr dk nw rl tb L ["tree","numbers","found","number"] [some a1,some a2,none,none] [] L [] [] []) (fun f σ'=>A4r f σ' fun a σ''=>Q a (St.mk σ''.tr σ''.dk σ''.nw σ''.rl σ''.tb fid nam loc tmp cfid cnm cel glb)) (fun _=>False)):WC S (d+1) r env 28 [a1,a2] (St.mk tr dk nw rl tb fid nam loc tmp cfid cnm cel glb) Q X:=
 A7a G.f_oldest_leaf rfl fun L=>W.sb (by kernel_rfl) (h L)
theorem B4l(G:PG S){a1 a2:AV}(h: ∀L,W S d false (A4a.env L) (RF S) (execs A4a.body (A4a.env L)) (St.mk tr dk nw rl tb L ["tree","numbers","found","most","number","here"] [some a1,some a2,none,none,none,none] [] L [] [] []) (fun f σ'=>A4r f σ' fun a σ''=>Q a (St.mk σ''.tr σ''.dk σ''.nw σ''.rl σ''.tb fid nam loc tmp cfid cnm cel glb)) (fun _=>False)):WC S (d+1) r env 35 [a1,a2] (St.mk tr dk nw rl tb fid nam loc tmp cfid cnm cel glb) Q X:=
 A7a G.f_largest_leaf rfl fun L=>W.sb (by kernel_rfl) (h L)
theorem B5t(G:PG S){a1 a2 a3 a4:AV}(h: ∀L,W S d false (A4w.env L) (RF S) (execs A4w.body (A4w.env L)) (St.mk tr dk nw rl tb L ["self","number","sort","parent"] [some a1,some a2,some a3,some a4] [] L [] [] []) (fun f σ'=>A4r f σ' fun a σ''=>Q a (St.mk σ''.tr σ''.dk σ''.nw σ''.rl σ''.tb fid nam loc tmp cfid cnm cel glb)) (fun _=>False)):WC S (d+1) r env 69 [a1,a2,a3,a4] (St.mk tr dk nw rl tb fid nam loc tmp cfid cnm cel glb) Q X:=
 A7a G.f_Window_init rfl fun L=>W.sb (by kernel_rfl) (h L)
theorem B5r(G:PG S){a1 a2:AV}(h: ∀L,W S d false (A4u.env L) (RF S) (execs A4u.body (A4u.env L)) (St.mk tr dk nw rl tb L ["self","axis"] [some a1,some a2] [] L [] [] ["WIDTH"]) (fun f σ'=>A4r f σ' fun a σ''=>Q a (St.mk σ''.tr σ''.dk σ''.nw σ''.rl σ''.tb fid nam loc tmp cfid cnm cel glb)) (fun _=>False)):WC S (d+1) r env 76 [a1,a2] (St.mk tr dk nw rl tb fid nam loc tmp cfid cnm cel glb) Q X:=
 A7a G.f_Window_size rfl fun L=>W.sb (by kernel_rfl) (h L)
theorem B0y(G:PG S){a1 a2 a3:AV}(h: ∀L,W S d false (A2j.env L) (RF S) (execs A2j.body (A2j.env L)) (St.mk tr dk nw rl tb L ["self","axis","size"] [some a1,some a2,some a3] [] L [] [] ["WIDTH"]) (fun f σ'=>A4r f σ' fun a σ''=>Q a (St.mk σ''.tr σ''.dk σ''.nw σ''.rl σ''.tb fid nam loc tmp cfid cnm cel glb)) (fun _=>False)):WC S (d+1) r env 83 [a1,a2,a3] (St.mk tr dk nw rl tb fid nam loc tmp cfid cnm cel glb) Q X:=
 A7a G.f_Window_set_size rfl fun L=>W.sb (by kernel_rfl) (h L)
theorem B4o(G:PG S){a1 a2:AV}(h: ∀L,W S d false (A4c.env L) (RF S) (execs A4c.body (A4c.env L)) (St.mk tr dk nw rl tb L ["self","axis"] [some a1,some a2] [] L [] [] ["WIDTH"]) (fun f σ'=>A4r f σ' fun a σ''=>Q a (St.mk σ''.tr σ''.dk σ''.nw σ''.rl σ''.tb fid nam loc tmp cfid cnm cel glb)) (fun _=>False)):WC S (d+1) r env 90 [a1,a2] (St.mk tr dk nw rl tb fid nam loc tmp cfid cnm cel glb) Q X:=
 A7a G.f_Window_place rfl fun L=>W.sb (by kernel_rfl) (h L)
theorem B4n(G:PG S){a1:AV}(h: ∀L,W S d false (A4b.env L) (RF S) (execs A4b.body (A4b.env L)) (St.mk tr dk nw rl tb L ["self"] [some a1] [] L [] [] []) (fun f σ'=>A4r f σ' fun a σ''=>Q a (St.mk σ''.tr σ''.dk σ''.nw σ''.rl σ''.tb fid nam loc tmp cfid cnm cel glb)) (fun _=>False)):WC S (d+1) r env 97 [a1] (St.mk tr dk nw rl tb fid nam loc tmp cfid cnm cel glb) Q X:=
 A7a G.f_Window_shown rfl fun L=>W.sb (by kernel_rfl) (h L)
theorem B5s(G:PG S){a1 a2:AV}(h: ∀L,W S d false (A4v.env L) (RF S) (execs A4v.body (A4v.env L)) (St.mk tr dk nw rl tb L ["self","told"] [some a1,some a2] [] L [] [] []) (fun f σ'=>A4r f σ' fun a σ''=>Q a (St.mk σ''.tr σ''.dk σ''.nw σ''.rl σ''.tb fid nam loc tmp cfid cnm cel glb)) (fun _=>False)):WC S (d+1) r env 104 [a1,a2] (St.mk tr dk nw rl tb fid nam loc tmp cfid cnm cel glb) Q X:=
 A7a G.f_Window_show rfl fun L=>W.sb (by kernel_rfl) (h L)
theorem B1a(G:PG S){a1 a2 a3 a4 a5 a6:AV}(h: ∀L,W S d false (A2l.env L) (RF S) (execs A2l.body (A2l.env L)) (St.mk tr dk nw rl tb L ["self","width","height","buffer","least_width","least_height","first"] [some a1,some a2,some a3,some a4,some a5,some a6,none] [] L [] [] ["LEAF"]) (fun f σ'=>A4r f σ' fun a σ''=>Q a (St.mk σ''.tr σ''.dk σ''.nw σ''.rl σ''.tb fid nam loc tmp cfid cnm cel glb)) (fun _=>False)):WC S (d+1) r env 126 [a1,a2,a3,a4,a5,a6] (St.mk tr dk nw rl tb fid nam loc tmp cfid cnm cel glb) Q X:=
 A7a G.f_WindowTree_init rfl fun L=>W.sb (by kernel_rfl) (h L)
theorem B0i(G:PG S){a1 a2 a3:AV}(h: ∀L,W S d false (A2b.env L) (RF S) (execs A2b.body (A2b.env L)) (St.mk tr dk nw rl tb L ["self","sort","parent","found"] [some a1,some a2,some a3,none] [] L [] [] ["Window"]) (fun f σ'=>A4r f σ' fun a σ''=>Q a (St.mk σ''.tr σ''.dk σ''.nw σ''.rl σ''.tb fid nam loc tmp cfid cnm cel glb)) (fun _=>False)):WC S (d+1) r env 133 [a1,a2,a3] (St.mk tr dk nw rl tb fid nam loc tmp cfid cnm cel glb) Q X:=
 A7a G.f_WindowTree_fresh rfl fun L=>W.sb (by kernel_rfl) (h L)
theorem A9n(G:PG S){a1 a2:AV}(h: ∀L,W S d false (A1v.env L) (RF S) (execs A1v.body (A1v.env L)) (St.mk tr dk nw rl tb L ["self","number","found"] [some a1,some a2,none] [] L [] [] ["LispSignal"]) (fun f σ'=>A4r f σ' fun a σ''=>Q a (St.mk σ''.tr σ''.dk σ''.nw σ''.rl σ''.tb fid nam loc tmp cfid cnm cel glb)) (fun _=>False)):WC S (d+1) r env 140 [a1,a2] (St.mk tr dk nw rl tb fid nam loc tmp cfid cnm cel glb) Q X:=
 A7a G.f_WindowTree_window rfl fun L=>W.sb (by kernel_rfl) (h L)
theorem B0z(G:PG S){a1 a2:AV}(h: ∀L,W S d false (A2k.env L) (RF S) (execs A2k.body (A2k.env L)) (St.mk tr dk nw rl tb L ["self","number","found"] [some a1,some a2,none] [] L [] [] ["LEAF","LispSignal"]) (fun f σ'=>A4r f σ' fun a σ''=>Q a (St.mk σ''.tr σ''.dk σ''.nw σ''.rl σ''.tb fid nam loc tmp cfid cnm cel glb)) (fun _=>False)):WC S (d+1) r env 147 [a1,a2] (St.mk tr dk nw rl tb fid nam loc tmp cfid cnm cel glb) Q X:=
 A7a G.f_WindowTree_leaf rfl fun L=>W.sb (by kernel_rfl) (h L)
theorem B0h(G:PG S){a1 a2:AV}(h: ∀L,W S d false (A2a.env L) (RF S) (execs A2a.body (A2a.env L)) (St.mk tr dk nw rl tb L ["self","number"] [some a1,some a2] [] L [] [] []) (fun f σ'=>A4r f σ' fun a σ''=>Q a (St.mk σ''.tr σ''.dk σ''.nw σ''.rl σ''.tb fid nam loc tmp cfid cnm cel glb)) (fun _=>False)):WC S (d+1) r env 154 [a1,a2] (St.mk tr dk nw rl tb fid nam loc tmp cfid cnm cel glb) Q X:=
 A7a G.f_WindowTree_touch rfl fun L=>W.sb (by kernel_rfl) (h L)
theorem A9o(G:PG S){a1 a2:AV}(h: ∀L,W S d false (A1w.env L) (RF S) (execs A1w.body (A1w.env L)) (St.mk tr dk nw rl tb L ["self","number"] [some a1,some a2] [] L [] [] []) (fun f σ'=>A4r f σ' fun a σ''=>Q a (St.mk σ''.tr σ''.dk σ''.nw σ''.rl σ''.tb fid nam loc tmp cfid cnm cel glb)) (fun _=>False)):WC S (d+1) r env 161 [a1,a2] (St.mk tr dk nw rl tb fid nam loc tmp cfid cnm cel glb) Q X:=
 A7a G.f_WindowTree_select rfl fun L=>W.sb (by kernel_rfl) (h L)
theorem A7r(G:PG S){a1 a2:AV}(h: ∀L,W S d false (A1e.env L) (RF S) (execs A1e.body (A1e.env L)) (St.mk tr dk nw rl tb L ["self","axis"] [some a1,some a2] [] L [] [] ["WIDTH"]) (fun f σ'=>A4r f σ' fun a σ''=>Q a (St.mk σ''.tr σ''.dk σ''.nw σ''.rl σ''.tb fid nam loc tmp cfid cnm cel glb)) (fun _=>False)):WC S (d+1) r env 168 [a1,a2] (St.mk tr dk nw rl tb fid nam loc tmp cfid cnm cel glb) Q X:=
 A7a G.f_WindowTree_least_leaf rfl fun L=>W.sb (by kernel_rfl) (h L)
theorem C8m(G:PG S){a1:AV}(h: ∀L,W S d false (B5b.env L) (RF S) (execs B5b.body (B5b.env L)) (St.mk tr dk nw rl tb L ["sort"] [some a1] [] L [] [] ["ROW","WIDTH","HEIGHT"]) (fun f σ'=>A4r f σ' fun a σ''=>Q a (St.mk σ''.tr σ''.dk σ''.nw σ''.rl σ''.tb fid nam loc tmp cfid cnm cel glb)) (fun _=>False)):WC S (d+1) r env 189 [a1] (St.mk tr dk nw rl tb fid nam loc tmp cfid cnm cel glb) Q X:=
 A7a G.f_along rfl fun L=>W.sb (by kernel_rfl) (h L)
theorem B7t(G:PG S){a1:AV}(h: ∀L,W S d false (A5o.env L) (RF S) (execs A5o.body (A5o.env L)) (St.mk tr dk nw rl tb L ["axis"] [some a1] [] L [] [] ["WIDTH","ROW","COLUMN"]) (fun f σ'=>A4r f σ' fun a σ''=>Q a (St.mk σ''.tr σ''.dk σ''.nw σ''.rl σ''.tb fid nam loc tmp cfid cnm cel glb)) (fun _=>False)):WC S (d+1) r env 196 [a1] (St.mk tr dk nw rl tb fid nam loc tmp cfid cnm cel glb) Q X:=
 A7a G.f_sort_along rfl fun L=>W.sb (by kernel_rfl) (h L)
theorem B4k(G:PG S){a1 a2:AV}(h: ∀L,W S d false (A3z.env L) (RF S) (execs A3z.body (A3z.env L)) (St.mk tr dk nw rl tb L ["tree","number","found","waiting","here"] [some a1,some a2,none,none,none] [] L [] [] ["LEAF"]) (fun f σ'=>A4r f σ' fun a σ''=>Q a (St.mk σ''.tr σ''.dk σ''.nw σ''.rl σ''.tb fid nam loc tmp cfid cnm cel glb)) (fun _=>False)):WC S (d+1) r env 203 [a1,a2] (St.mk tr dk nw rl tb fid nam loc tmp cfid cnm cel glb) Q X:=
 A7a G.f_leaves_under rfl fun L=>W.sb (by kernel_rfl) (h L)
theorem C5v(G:PG S){a1:AV}(h: ∀L,W S d false (B1h.env L) (RF S) (execs B1h.body (B1h.env L)) (St.mk tr dk nw rl tb L ["tree"] [some a1] [] L [] [] ["leaves_under"]) (fun f σ'=>A4r f σ' fun a σ''=>Q a (St.mk σ''.tr σ''.dk σ''.nw σ''.rl σ''.tb fid nam loc tmp cfid cnm cel glb)) (fun _=>False)):WC S (d+1) r env 210 [a1] (St.mk tr dk nw rl tb fid nam loc tmp cfid cnm cel glb) Q X:=
 A7a G.f_leaves rfl fun L=>W.sb (by kernel_rfl) (h L)
theorem B2p(G:PG S){a1 a2:AV}(h: ∀L,W S d false (A3f.env L) (RF S) (execs A3f.body (A3f.env L)) (St.mk tr dk nw rl tb L ["tree","number","found","waiting","here"] [some a1,some a2,none,none,none] [] L [] [] []) (fun f σ'=>A4r f σ' fun a σ''=>Q a (St.mk σ''.tr σ''.dk σ''.nw σ''.rl σ''.tb fid nam loc tmp cfid cnm cel glb)) (fun _=>False)):WC S (d+1) r env 217 [a1,a2] (St.mk tr dk nw rl tb fid nam loc tmp cfid cnm cel glb) Q X:=
 A7a G.f_windows_under rfl fun L=>W.sb (by kernel_rfl) (h L)
theorem B2r(G:PG S){a1 a2 a3:AV}(h: ∀L,W S d false (A3h.env L) (RF S) (execs A3h.body (A3h.env L)) (St.mk tr dk nw rl tb L ["tree","old","new","parent","children"] [some a1,some a2,some a3,none,none] [] L [] [] []) (fun f σ'=>A4r f σ' fun a σ''=>Q a (St.mk σ''.tr σ''.dk σ''.nw σ''.rl σ''.tb fid nam loc tmp cfid cnm cel glb)) (fun _=>False)):WC S (d+1) r env 224 [a1,a2,a3] (St.mk tr dk nw rl tb fid nam loc tmp cfid cnm cel glb) Q X:=
 A7a G.f_replace_child rfl fun L=>W.sb (by kernel_rfl) (h L)
theorem B7v(G:PG S){a1 a2 a3:AV}(h: ∀L,W S d false (A5q.env L) (RF S) (execs A5q.body (A5q.env L)) (St.mk tr dk nw rl tb L ["tree","number","axis","own","here"] [some a1,some a2,some a3,none,none] [] L ["found"] [none] ["windows_under","LEAF","along","sum","max"]) (fun f σ'=>A4r f σ' fun a σ''=>Q a (St.mk σ''.tr σ''.dk σ''.nw σ''.rl σ''.tb fid nam loc tmp cfid cnm cel glb)) (fun _=>False)):WC S (d+1) r env 229 [a1,a2,a3] (St.mk tr dk nw rl tb fid nam loc tmp cfid cnm cel glb) Q X:=
 A7a G.f_least_size rfl fun L=>W.sb (by kernel_rfl) (h L)
theorem B2q(G:PG S){a1 a2 a3 a4:AV}(h: ∀L,W S d false (A3g.env L) (RF S) (execs A3g.body (A3g.env L)) (St.mk tr dk nw rl tb L ["number","size","waiting","own","much","here","child","leasts","spare","part"] [some a2,some a4,none,none,none,none,none,none,none,none] [] L ["tree","axis"] [some a1,some a3] ["LEAF","along","zip","shares"]) (fun f σ'=>A4r f σ' fun a σ''=>Q a (St.mk σ''.tr σ''.dk σ''.nw σ''.rl σ''.tb fid nam loc tmp cfid cnm cel glb)) (fun _=>False)):WC S (d+1) r env 239 [a1,a2,a3,a4] (St.mk tr dk nw rl tb fid nam loc tmp cfid cnm cel glb) Q X:=
 A7a G.f_set_tree_size rfl fun L=>W.sb (by kernel_rfl) (h L)
theorem B7u(G:PG S){a1:AV}(h: ∀L,W S d false (A5p.env L) (RF S) (execs A5p.body (A5p.env L)) (St.mk tr dk nw rl tb L ["tree","waiting","number","left","top","here","child"] [some a1,none,none,none,none,none,none] [] L [] [] ["along","WIDTH"]) (fun f σ'=>A4r f σ' fun a σ''=>Q a (St.mk σ''.tr σ''.dk σ''.nw σ''.rl σ''.tb fid nam loc tmp cfid cnm cel glb)) (fun _=>False)):WC S (d+1) r env 246 [a1] (St.mk tr dk nw rl tb fid nam loc tmp cfid cnm cel glb) Q X:=
 A7a G.f_set_places rfl fun L=>W.sb (by kernel_rfl) (h L)
theorem B4j(G:PG S){a1 a2:AV}(h: ∀L,W S d false (A3y.env L) (RF S) (execs A3y.body (A3y.env L)) (St.mk tr dk nw rl tb L ["tree","number","here","axis","at","child","own"] [some a1,some a2,none,none,none,none,none] [] L [] [] ["LEAF","len","along"]) (fun f σ'=>A4r f σ' fun a σ''=>Q a (St.mk σ''.tr σ''.dk σ''.nw σ''.rl σ''.tb fid nam loc tmp cfid cnm cel glb)) (fun _=>False)):WC S (d+1) r env 253 [a1,a2] (St.mk tr dk nw rl tb fid nam loc tmp cfid cnm cel glb) Q X:=
 A7a G.f_wrong_window rfl fun L=>W.sb (by kernel_rfl) (h L)
theorem B7s(G:PG S){a1:AV}(h: ∀L,W S d false (A5n.env L) (RF S) (execs A5n.body (A5n.env L)) (St.mk tr dk nw rl tb L ["tree","root","found","number","word"] [some a1,none,none,none,none] [] L [] [] ["windows_under","wrong_window","sorted","leaves_under"]) (fun f σ'=>A4r f σ' fun a σ''=>Q a (St.mk σ''.tr σ''.dk σ''.nw σ''.rl σ''.tb fid nam loc tmp cfid cnm cel glb)) (fun _=>False)):WC S (d+1) r env 260 [a1] (St.mk tr dk nw rl tb fid nam loc tmp cfid cnm cel glb) Q X:=
 A7a G.f_tree_error rfl fun L=>W.sb (by kernel_rfl) (h L)
theorem B5n(G:PG S){a1 a2 a3 a4:AV}(h: ∀L,W S d false (A1d.env L) (RF S) (execs A1d.body (A1d.env L)) (St.mk tr dk nw rl tb L ["tree","number","size","axis","whole","new","old"] [some a1,some a2,some a3,some a4,none,none,none] [] L [] [] ["least_size","LispSignal"]) (fun f σ'=>A4r f σ' fun a σ''=>Q a (St.mk σ''.tr σ''.dk σ''.nw σ''.rl σ''.tb fid nam loc tmp cfid cnm cel glb)) (fun _=>False)):WC S (d+1) r env 267 [a1,a2,a3,a4] (St.mk tr dk nw rl tb fid nam loc tmp cfid cnm cel glb) Q X:=
 A7a G.f_split_parts rfl fun L=>W.sb (by kernel_rfl) (h L)
theorem B4m(G:PG S){a1 a2 a3:AV}(h: ∀L,W S d false (A4h.env L) (RF S) (execs A4h.body (A4h.env L)) (St.mk tr dk nw rl tb L ["tree","number","axis","here","around"] [some a1,some a2,some a3,none,none] [] L [] [] ["along","sort_along","replace_child"]) (fun f σ'=>A4r f σ' fun a σ''=>Q a (St.mk σ''.tr σ''.dk σ''.nw σ''.rl σ''.tb fid nam loc tmp cfid cnm cel glb)) (fun _=>False)):WC S (d+1) r env 274 [a1,a2,a3] (St.mk tr dk nw rl tb fid nam loc tmp cfid cnm cel glb) Q X:=
 A7a G.f_combined rfl fun L=>W.sb (by kernel_rfl) (h L)
theorem C2b(G:PG S){a1 a2 a3 a4 a5:AV}(h: ∀L,W S d false (A6v.env L) (RF S) (execs A6v.body (A6v.env L)) (St.mk tr dk nw rl tb L ["tree","number","size","axis","is_ahead","old","new","parent","model","found","children","at"] [some a1,some a2,some a3,some a4,some a5,none,none,none,none,none,none,none] [] L [] [] ["split_parts","combined","leaves_under","LEAF","list","set_tree_size","joined","set_places"]) (fun f σ'=>A4r f σ' fun a σ''=>Q a (St.mk σ''.tr σ''.dk σ''.nw σ''.rl σ''.tb fid nam loc tmp cfid cnm cel glb)) (fun _=>False)):WC S (d+1) r env 281 [a1,a2,a3,a4,a5] (St.mk tr dk nw rl tb fid nam loc tmp cfid cnm cel glb) Q X:=
 A7a G.f_split rfl fun L=>W.sb (by kernel_rfl) (h L)
theorem C5w(G:PG S){a1 a2:AV}(h: ∀L,W S d false (B1i.env L) (RF S) (execs B1i.body (B1i.env L)) (St.mk tr dk nw rl tb L ["tree","number","here","found","child","own"] [some a1,some a2,none,none,none,none] [] L [] [] []) (fun f σ'=>A4r f σ' fun a σ''=>Q a (St.mk σ''.tr σ''.dk σ''.nw σ''.rl σ''.tb fid nam loc tmp cfid cnm cel glb)) (fun _=>False)):WC S (d+1) r env 288 [a1,a2] (St.mk tr dk nw rl tb fid nam loc tmp cfid cnm cel glb) Q X:=
 A7a G.f_joined rfl fun L=>W.sb (by kernel_rfl) (h L)
theorem B5o(G:PG S){a1 a2:AV}(h: ∀L,W S d false (A3o.env L) (RF S) (execs A3o.body (A3o.env L)) (St.mk tr dk nw rl tb L ["tree","number","size"] [some a1,some a2,some (.none)] [] L [] [] ["split","HEIGHT"]) (fun f σ'=>A4r f σ' fun a σ''=>Q a (St.mk σ''.tr σ''.dk σ''.nw σ''.rl σ''.tb fid nam loc tmp cfid cnm cel glb)) (fun _=>False)):WC S (d+1) r env 296 [a1,a2] (St.mk tr dk nw rl tb fid nam loc tmp cfid cnm cel glb) Q X:=
 A7a G.f_split_below rfl fun L=>W.sb (by kernel_rfl) (h L)
theorem B5m(G:PG S){a1 a2:AV}(h: ∀L,W S d false (A3n.env L) (RF S) (execs A3n.body (A3n.env L)) (St.mk tr dk nw rl tb L ["tree","number","size"] [some a1,some a2,some (.none)] [] L [] [] ["split","WIDTH"]) (fun f σ'=>A4r f σ' fun a σ''=>Q a (St.mk σ''.tr σ''.dk σ''.nw σ''.rl σ''.tb fid nam loc tmp cfid cnm cel glb)) (fun _=>False)):WC S (d+1) r env 304 [a1,a2] (St.mk tr dk nw rl tb fid nam loc tmp cfid cnm cel glb) Q X:=
 A7a G.f_split_right rfl fun L=>W.sb (by kernel_rfl) (h L)
theorem B7y(G:PG S){a1 a2 a3:AV}(h: ∀L,W S d false (A5t.env L) (RF S) (execs A5t.body (A5t.env L)) (St.mk tr dk nw rl tb L ["self","rows","columns"] [some a1,some a2,some a3] [] L [] [] []) (fun f σ'=>A4r f σ' fun a σ''=>Q a (St.mk σ''.tr σ''.dk σ''.nw σ''.rl σ''.tb fid nam loc tmp cfid cnm cel glb)) (fun _=>False)):WC S (d+1) r env 319 [a1,a2,a3] (St.mk tr dk nw rl tb fid nam loc tmp cfid cnm cel glb) Q X:=
 A7a G.f_Rules_init rfl fun L=>W.sb (by kernel_rfl) (h L)
theorem B7r(G:PG S){a1 a2:AV}(h: ∀L,W S d false (A5m.env L) (RF S) (execs A5m.body (A5m.env L)) (St.mk tr dk nw rl tb L [] [] [] L ["tree","buffer"] [some a1,some a2] ["leaves"]) (fun f σ'=>A4r f σ' fun a σ''=>Q a (St.mk σ''.tr σ''.dk σ''.nw σ''.rl σ''.tb fid nam loc tmp cfid cnm cel glb)) (fun _=>False)):WC S (d+1) r env 331 [a1,a2] (St.mk tr dk nw rl tb fid nam loc tmp cfid cnm cel glb) Q X:=
 A7a G.f_windows_of rfl fun L=>W.sb (by kernel_rfl) (h L)
theorem C3e(G:PG S){a1 a2:AV}(h: ∀L,W S d false (A9d.env L) (RF S) (execs A9d.body (A9d.env L)) (St.mk tr dk nw rl tb L ["rows"] [some a1] [] L ["buffer"] [some a2] []) (fun f σ'=>A4r f σ' fun a σ''=>Q a (St.mk σ''.tr σ''.dk σ''.nw σ''.rl σ''.tb fid nam loc tmp cfid cnm cel glb)) (fun _=>False)):WC S (d+1) r env 336 [a1,a2] (St.mk tr dk nw rl tb fid nam loc tmp cfid cnm cel glb) Q X:=
 A7a G.f_without rfl fun L=>W.sb (by kernel_rfl) (h L)
theorem B5p(G:PG S){a1 a2 a3:AV}(h: ∀L,W S d false (A4s.env L) (RF S) (execs A4s.body (A4s.env L)) (St.mk tr dk nw rl tb L ["tree","number","start","point","here","again"] [some a1,some a2,some (.int 1),some (.int 1),none,none] [] L ["buffer"] [some a3] ["LispSignal","without"]) (fun f σ'=>A4r f σ' fun a σ''=>Q a (St.mk σ''.tr σ''.dk σ''.nw σ''.rl σ''.tb fid nam loc tmp cfid cnm cel glb)) (fun _=>False)):WC S (d+1) r env 342 [a1,a2,a3] (St.mk tr dk nw rl tb fid nam loc tmp cfid cnm cel glb) Q X:=
 A7a G.f_show_buffer rfl fun L=>W.sb (by kernel_rfl) (h L)
theorem B9v(G:PG S){a1 a2 a3:AV}(h: ∀L,W S d false (A6u.env L) (RF S) (execs A6u.body (A6u.env L)) (St.mk tr dk nw rl tb L ["tree","number","rules","here"] [some a1,some a2,some a3,none] [] L [] [] ["max","split_below","split_right"]) (fun f σ'=>A4r f σ' fun a σ''=>Q a (St.mk σ''.tr σ''.dk σ''.nw σ''.rl σ''.tb fid nam loc tmp cfid cnm cel glb)) (fun _=>False)):WC S (d+1) r env 349 [a1,a2,a3] (St.mk tr dk nw rl tb fid nam loc tmp cfid cnm cel glb) Q X:=
 A7a G.f_split_for rfl fun L=>W.sb (by kernel_rfl) (h L)
theorem B0x(G:PG S){a1 a2:AV}(h: ∀L,W S d false (A2i.env L) (RF S) (execs A2i.body (A2i.env L)) (St.mk tr dk nw rl tb L ["tree","rules","found","number","new"] [some a1,some a2,none,none,none] [] L [] [] ["leaves","largest_leaf","oldest_leaf","split_for","len","Rules"]) (fun f σ'=>A4r f σ' fun a σ''=>Q a (St.mk σ''.tr σ''.dk σ''.nw σ''.rl σ''.tb fid nam loc tmp cfid cnm cel glb)) (fun _=>False)):WC S (d+1) r env 356 [a1,a2] (St.mk tr dk nw rl tb fid nam loc tmp cfid cnm cel glb) Q X:=
 A7a G.f_split_somewhere rfl fun L=>W.sb (by kernel_rfl) (h L)
theorem C5u(G:PG S){a1:AV}(h: ∀L,W S d false (B1g.env L) (RF S) (execs B1g.body (B1g.env L)) (St.mk tr dk nw rl tb L [] [] [] L ["tree"] [some a1] ["leaves"]) (fun f σ'=>A4r f σ' fun a σ''=>Q a (St.mk σ''.tr σ''.dk σ''.nw σ''.rl σ''.tb fid nam loc tmp cfid cnm cel glb)) (fun _=>False)):WC S (d+1) r env 361 [a1] (St.mk tr dk nw rl tb fid nam loc tmp cfid cnm cel glb) Q X:=
 A7a G.f_usable rfl fun L=>W.sb (by kernel_rfl) (h L)
theorem B1w(G:PG S){a1 a2 a3:AV}(h: ∀L,W S d false (A2r.env L) (RF S) (execs A2r.body (A2r.env L)) (St.mk tr dk nw rl tb L ["buffer","rules","known","found"] [some a2,some a3,none,none] [] L ["tree","may_be_selected"] [some a1,some (.bool false)] ["windows_of","show_buffer","split_somewhere","oldest_leaf","usable"]) (fun f σ'=>A4r f σ' fun a σ''=>Q a (St.mk σ''.tr σ''.dk σ''.nw σ''.rl σ''.tb fid nam loc tmp cfid cnm cel glb)) (fun _=>False)):WC S (d+1) r env 367 [a1,a2,a3] (St.mk tr dk nw rl tb fid nam loc tmp cfid cnm cel glb) Q X:=
 A7a G.f_display_buffer rfl fun L=>W.sb (by kernel_rfl) (h L)
theorem B2s(G:PG S){a1 a2 a3:AV}(h: ∀L,W S d false (A3i.env L) (RF S) (execs A3i.body (A3i.env L)) (St.mk tr dk nw rl tb L ["tree","buffer","rules","found"] [some a1,some a2,some a3,none] [] L [] [] ["display_buffer","LispSignal"]) (fun f σ'=>A4r f σ' fun a σ''=>Q a (St.mk σ''.tr σ''.dk σ''.nw σ''.rl σ''.tb fid nam loc tmp cfid cnm cel glb)) (fun _=>False)):WC S (d+1) r env 374 [a1,a2,a3] (St.mk tr dk nw rl tb fid nam loc tmp cfid cnm cel glb) Q X:=
 A7a G.f_pop_to_buffer rfl fun L=>W.sb (by kernel_rfl) (h L)
theorem C1i(G:PG S){a1 a2:AV}(h: ∀L,W S d false (A7t.env L) (RF S) (execs A7t.body (A7t.env L)) (St.mk tr dk nw rl tb L ["deck","many"] [some a1,some a2] [] L [] [] ["len"]) (fun f σ'=>A4r f σ' fun a σ''=>Q a (St.mk σ''.tr σ''.dk σ''.nw σ''.rl σ''.tb fid nam loc tmp cfid cnm cel glb)) (fun _=>False)):WC S (d+1) r env 381 [a1,a2] (St.mk tr dk nw rl tb fid nam loc tmp cfid cnm cel glb) Q X:=
 A7a G.f_law_draw rfl fun L=>W.sb (by kernel_rfl) (h L)
theorem B7w(G:PG S){a1 a2 a3:AV}(h: ∀L,W S d false (A5r.env L) (RF S) (execs A5r.body (A5r.env L)) (St.mk tr dk nw rl tb L ["shown_window","row_rule","columns"] [some a1,some a2,some a3] [] L [] [] ["max"]) (fun f σ'=>A4r f σ' fun a σ''=>Q a (St.mk σ''.tr σ''.dk σ''.nw σ''.rl σ''.tb fid nam loc tmp cfid cnm cel glb)) (fun _=>False)):WC S (d+1) r env 388 [a1,a2,a3] (St.mk tr dk nw rl tb fid nam loc tmp cfid cnm cel glb) Q X:=
 A7a G.f_law_splits rfl fun L=>W.sb (by kernel_rfl) (h L)
theorem B7x(G:PG S){a1 a2 a3 a4:AV}(h: ∀L,W S d false (A5s.env L) (RF S) (execs A5s.body (A5s.env L)) (St.mk tr dk nw rl tb L ["row_rule","columns","found","own","known","areas","oldest","side","rest"] [some a3,some a4,none,none,none,none,none,none,none] [] L ["tree","buffer"] [some a1,some a2] ["leaves","sorted","max","_law_splits","len"]) (fun f σ'=>A4r f σ' fun a σ''=>Q a (St.mk σ''.tr σ''.dk σ''.nw σ''.rl σ''.tb fid nam loc tmp cfid cnm cel glb)) (fun _=>False)):WC S (d+1) r env 393 [a1,a2,a3,a4] (St.mk tr dk nw rl tb fid nam loc tmp cfid cnm cel glb) Q X:=
 A7a G.f_law_chosen rfl fun L=>W.sb (by kernel_rfl) (h L)
end
section
variable {S:SP} {d:Nat} {r:Bool} {env:Env} {X:St→Prop} {fid:Nat} {nam:List Str} {cfid:Nat} {cnm:List Str} {glb:List Str} {dk:Option (List Int×Int)} {nw:Option (Int×Nat×Win)} {rl:Option (Nat×Nat×Int×Int)} {tb:Bool} {cel:List (Option AV)} {tmp:List (Option CO)} {tr:Option Tree} {loc:List (Option AV)} {σ:St} {t:Tree} {n:Int} {w:Win}
noncomputable def FL(fa:Addr)(cd:Value):FnI:={A1h with a:=fa,cdv:=cd}
noncomputable def St0(ns:List Int)(L:Nat):St:=St.mk none none none none true L ["script","deck","lap","found","number","axis","shown_window","buffer","row_rule","columns","due","selected","ahead","answer","old","new"] [some (.lst (ns.map .int)),none,none,none,none,none,none,none,none,none,none,none,none,none,none,none] [] L ["tree"] [none] ["WindowTree","_law_draw","range","leaves","len","HEIGHT","WIDTH","split","LispSignal","_law_chosen","pop_to_buffer","Rules","display_buffer","tree_error"]
noncomputable def P0(L:Nat)(k:Key):Prop:=k= .loc L∨k= .cel L 0∨k= .tab
noncomputable def Φ0(L:Nat):Key→Addr
 | .cel _ _=>L+1
 | .tab=>390
 |_=>L
theorem D2a{ns:List Int}{L:Nat}{k:Key}{o:CO}(h:(St0 ns L).obj S k=some o):
  (k= .loc L∧o= .locs (St0 ns L).nam (St0 ns L).loc)∨(k= .cel L 0∧o= .cell none)∨(k= .tab∧o= .tabo true):=by
 cases k with
 |tree=>exact k1 h
 |treeD=>exact k1 h
 |wdic=>exact k1 h
 |win n=>exact k1 h
 |winD n=>exact k1 h
 |kid n v=>exact k1 h
 |deck=>exact k1 h
 |loc f=>
  replace h:(if f=L then some (CO.locs (St0 ns L).nam (St0 ns L).loc)else none)=some o:=h
  split at h
  ·rename_i e;subst e;cases h;exact .inl ⟨rfl,rfl⟩
  ·exact k1 h
 |tmp f k=>simp [St.obj,St0]at h
 |cel f i=>
  replace h:(if f=L then(([none]:List (Option AV))[i]?).map CO.cell else none)=some o:=h
  split at h
  ·rename_i e;subst e
   cases i with
   |zero=>cases h;exact .inr (.inl ⟨rfl,rfl⟩)
   |succ i=>exact k1 h
  ·exact k1 h
 |rl f=>exact k1 h
 |rlD f=>exact k1 h
 |tab=>cases h;exact .inr (.inr ⟨rfl,rfl⟩)
theorem C3b(G:PG S){A:Around}{L:Nat}{fa:Addr}{cd v:Value}{s:Shared}{ns:List Int}{mm:Str→Option Value}{Qf:Flow→Shared→Prop}{Ef:Value→Shared→Prop}
  (hw:W S (0+12) true ((FL fa cd).env L) (RF S) (execs A1h.body ((FL fa cd).env L)) (St0 ns L) (fun f _=>f= .ret (.bool true)) fun _=>False)
  (hd:A.depth+12≤900) (hu:A.units+240≤9000) (hh:A.handled=none) (hfr:A.frames=some [(FL fa cd).env L])
  (hgens:s.gens= #[]) (hos:s.os=S.os) (hkeep: ∀a o,S.base.get? a=some o→s.heap.get? a=some o)
  (hns:s.heap.Ns L mm) (hm:mm "script"=some v) (hv:A1i S (P0 L) S.base.get? (Φ0 L) (.lst (ns.map .int)) v)
  (bL:S.base.get? L=none) (hcell:s.heap.IsCell (L+1) none) (bC:S.base.get? (L+1)=none) (htab:s.heap.get? 390=some (tabObj #[])) (bT:S.base.get? 390=none) (hcode:CodeHd S.base 392 390) (hL:390<L)
  (hq: ∀s',(∀a o,S.base.get? a=some o→s'.heap.get? a=some o)→s'.os=S.os→s'.gens= #[]→(∃ps,s'.heap.get? 390=some (tabObj ps))→Qf (.ret (.bool true)) s'):
  wpAny (model S.prog S.w) A (execs A1h.body ((FL fa cd).env L)) Qf Ef s:=by
 have hF:=(G.f_law).eok L
 have hsim:Sim S ((FL fa cd).env L) (St0 ns L) (P0 L) S.base.get? (fun _=>none) (Φ0 L) s:=by
  refine⟨⟨hgens,hos,fun _ _ e=>e,hkeep,(fun _ _ e=>by exact k1 e),(fun _ _ e=>by exact k1 e),fun k o e=>?_,fun k o e=>?_,fun k o e=>?_,fun _ _ _=>rfl,fun k k' o o' e e' h=>?_⟩,G.ok,⟨hF.kfun,hF.glob,hF.blt,hF.kloc,hF.kcel,hF.kglb,hF.nd⟩,⟨fun k h=>?_,fun n h=>?_,fun n v h=>?_,fun h=>?_,fun h=>?_,fun h=>?_⟩,rfl,rfl,fun f h=>?_,fun i x e=>?_,rfl,rfl⟩
  ·rcases D2a e with⟨rfl,_⟩| ⟨rfl,_⟩| ⟨rfl,_⟩
   ·exact .inl rfl
   ·exact .inr (.inl rfl)
   ·exact .inr (.inr rfl)
  ·rcases D2a e with⟨rfl,rfl⟩| ⟨rfl,rfl⟩| ⟨rfl,rfl⟩
   ·refine A1f mm hns (fun i x av e1 e2=>?_)
    cases i with
    |zero=>cases e1;cases e2;exact⟨v,hm,hv⟩
    |succ i=>
     have h9:=List.mem_of_getElem? (show([none,none,none,none,none,none,none,none,none,none,none,none,none,none,none]:List (Option AV))[i]? =_ from e2)
     simp at h9
   ·exact A1f none hcell rfl
   ·exact A8n (#[]) htab (fun _=>rfl) hcode
  ·rcases D2a e with⟨rfl,_⟩| ⟨rfl,_⟩| ⟨rfl,_⟩
   ·exact bL
   ·exact bC
   ·exact bT
  ·rcases D2a e with⟨rfl,_⟩| ⟨rfl,_⟩| ⟨rfl,_⟩ <;> rcases D2a e' with⟨rfl,_⟩| ⟨rfl,_⟩| ⟨rfl,_⟩
   ·rfl
   ·exact absurd h (Nat.ne_of_lt (Nat.lt_succ_self L))
   ·exact absurd h (Nat.ne_of_gt hL)
   ·exact absurd h (Nat.ne_of_gt (Nat.lt_succ_self L))
   ·rfl
   ·exact absurd h (Nat.ne_of_gt (Nat.lt_succ_of_lt hL))
   ·exact absurd h (Nat.ne_of_lt hL)
   ·exact absurd h (Nat.ne_of_lt (Nat.lt_succ_of_lt hL))
   ·rfl
  ·rcases h with h|h|h <;> contradiction
  ·rcases h with h|h <;> rcases h with h|h|h <;> contradiction
  ·rcases h with h|h|h <;> contradiction
  ·rcases h with h|h <;> rcases h with h|h|h <;> contradiction
  ·rcases h with h|h|h <;> contradiction
  ·rcases h with h|h|h <;> contradiction
  ·have hf:f=L:=by
    rcases h with h| ⟨k,h⟩| ⟨k,h⟩|h|h
    ·rcases h with h|h|h <;> cases h;rfl
    ·rcases h with h|h|h <;> contradiction
    ·rcases h with h|h|h <;> cases h;rfl
    ·rcases h with h|h|h <;> contradiction
    ·rcases h with h|h|h <;> contradiction
   subst hf
   refine A8c hns fun o _ _ e _=>?_
   try clear hns
   exact⟨o,e⟩
  ·cases i with
   |zero=>cases e;rfl
   |succ i=>exact k1 e
 have hA:AOK (0+12) true ((FL fa cd).env L) (fun _=>none) A:=⟨hh,hd,hu,fun _=>⟨rfl,[],hfr,fun e he=>by exact k3 he⟩⟩
 refine wpAny_mono (hw A (P0 L) S.base.get? (fun _=>none) (Φ0 L) s hA hsim) (fun f s' hr=>?_) fun e s' hr=>?_
 ·refine Res.el hr fun P' z' Φ' σ' b x hr hs h9=>?_
  obtain rfl:=h9
  refine A0e hr fun u y9a hu=>?_
  try clear hr
  obtain rfl:=y9a
  have e1:u= .bool true:=A8d hu
  subst e1
  refine A0e (hs.core.rep .tab _ rfl) fun ps e2 _=>?_
  have e3:Φ' .tab=390:=x.f .tab (.inr (.inr rfl))
  rw [e3]at e2
  exact hq s' (fun a o e=>hs.core.zin _ _ (hs.core.base a o e)) hs.core.os hs.core.gens ⟨ps,e2⟩
 ·refine D0v hr fun P' z' Φ' σ' x _ _ _ _ hx=>?_
  try clear hr
  exact hx.elim
theorem B0m(G:PG S){fp pos:Pos}{e:Expr}{rest:List Expr}{Q:AV→St→Prop}(hx:Str.ofString "oldest_leaf"∈σ.glb)(he:starEach (e::rest) env=(false,eval e env)::starEach rest env)(hplain:(backTo pos (starEach rest env)).any (·.1)=false)(h:W S d r env (RL S) (spliced (backTo pos (starEach (e::rest) env))) σ (fun as σ₁=>WC S d r env 28 as σ₁ Q X) X):W S d r env (RV S) (eval (.Call (.Name (Str.ofString "oldest_leaf") fp) (e::rest) [] pos) env) σ Q X:=A1q hx G.g_oldest_leaf G.f_oldest_leaf.keep he hplain h
theorem B5j(G:PG S){fp pos:Pos}{e:Expr}{rest:List Expr}{Q:AV→St→Prop}(hx:Str.ofString "largest_leaf"∈σ.glb)(he:starEach (e::rest) env=(false,eval e env)::starEach rest env)(hplain:(backTo pos (starEach rest env)).any (·.1)=false)(h:W S d r env (RL S) (spliced (backTo pos (starEach (e::rest) env))) σ (fun as σ₁=>WC S d r env 35 as σ₁ Q X) X):W S d r env (RV S) (eval (.Call (.Name (Str.ofString "largest_leaf") fp) (e::rest) [] pos) env) σ Q X:=A1q hx G.g_largest_leaf G.f_largest_leaf.keep he hplain h
theorem A3l(G:PG S)(h2:t.get n=some w){pl:Sem Bool}{pos:Pos}{e:Expr}{rest:List Expr}{Q:AV→St→Prop}(he:starEach (e::rest) env=(false,eval e env)::starEach rest env)(hplain:(backTo pos (starEach rest env)).any (·.1)=false)(h:W S d r env (RL S) (spliced (backTo pos (starEach (e::rest) env))) (St.mk (some t) dk nw rl tb fid nam loc tmp cfid cnm cel glb) (fun as σ₁=>WC S d r env 76 (.ref (.win n)::as) σ₁ Q X) X):GM S d r env (Str.ofString "size") pl pos (e::rest) (.ref (.win n)) (St.mk (some t) dk nw rl tb fid nam loc tmp cfid cnm cel glb) Q X:=A9s (A1p rfl h2) (A0v rfl h2) G.m_Window_size (by kernel_rfl) he hplain h
theorem A5b(G:PG S)(h2:t.get n=some w){pl:Sem Bool}{pos:Pos}{e:Expr}{rest:List Expr}{Q:AV→St→Prop}(he:starEach (e::rest) env=(false,eval e env)::starEach rest env)(hplain:(backTo pos (starEach rest env)).any (·.1)=false)(h:W S d r env (RL S) (spliced (backTo pos (starEach (e::rest) env))) (St.mk (some t) dk nw rl tb fid nam loc tmp cfid cnm cel glb) (fun as σ₁=>WC S d r env 83 (.ref (.win n)::as) σ₁ Q X) X):GM S d r env (Str.ofString "set_size") pl pos (e::rest) (.ref (.win n)) (St.mk (some t) dk nw rl tb fid nam loc tmp cfid cnm cel glb) Q X:=A9s (A1p rfl h2) (A0v rfl h2) G.m_Window_set_size (by kernel_rfl) he hplain h
theorem A3s(G:PG S)(h2:t.get n=some w){pl:Sem Bool}{pos:Pos}{e:Expr}{rest:List Expr}{Q:AV→St→Prop}(he:starEach (e::rest) env=(false,eval e env)::starEach rest env)(hplain:(backTo pos (starEach rest env)).any (·.1)=false)(h:W S d r env (RL S) (spliced (backTo pos (starEach (e::rest) env))) (St.mk (some t) dk nw rl tb fid nam loc tmp cfid cnm cel glb) (fun as σ₁=>WC S d r env 90 (.ref (.win n)::as) σ₁ Q X) X):GM S d r env (Str.ofString "place") pl pos (e::rest) (.ref (.win n)) (St.mk (some t) dk nw rl tb fid nam loc tmp cfid cnm cel glb) Q X:=A9s (A1p rfl h2) (A0v rfl h2) G.m_Window_place (by kernel_rfl) he hplain h
theorem A3r(G:PG S)(h2:t.get n=some w){pl:Sem Bool}{pos:Pos}{Q:AV→St→Prop}(h:WC S d r env 97 [.ref (.win n)] (St.mk (some t) dk nw rl tb fid nam loc tmp cfid cnm cel glb) Q X):GM S d r env (Str.ofString "shown") pl pos [] (.ref (.win n)) (St.mk (some t) dk nw rl tb fid nam loc tmp cfid cnm cel glb) Q X:=D0f (A1p rfl h2) (A0v rfl h2) G.m_Window_shown (by kernel_rfl) h
theorem A5z(G:PG S)(h2:t.get n=some w){pl:Sem Bool}{pos:Pos}{e:Expr}{rest:List Expr}{Q:AV→St→Prop}(he:starEach (e::rest) env=(false,eval e env)::starEach rest env)(hplain:(backTo pos (starEach rest env)).any (·.1)=false)(h:W S d r env (RL S) (spliced (backTo pos (starEach (e::rest) env))) (St.mk (some t) dk nw rl tb fid nam loc tmp cfid cnm cel glb) (fun as σ₁=>WC S d r env 104 (.ref (.win n)::as) σ₁ Q X) X):GM S d r env (Str.ofString "show") pl pos (e::rest) (.ref (.win n)) (St.mk (some t) dk nw rl tb fid nam loc tmp cfid cnm cel glb) Q X:=A9s (A1p rfl h2) (A0v rfl h2) G.m_Window_show (by kernel_rfl) he hplain h
theorem A4n(G:PG S)(hS:t.S5){pl:Sem Bool}{pos:Pos}{e:Expr}{rest:List Expr}{Q:AV→St→Prop}(he:starEach (e::rest) env=(false,eval e env)::starEach rest env)(hplain:(backTo pos (starEach rest env)).any (·.1)=false)(h:W S d r env (RL S) (spliced (backTo pos (starEach (e::rest) env))) (St.mk (some t) dk nw rl tb fid nam loc tmp cfid cnm cel glb) (fun as σ₁=>WC S d r env 133 (.ref .tree::as) σ₁ Q X) X):GM S d r env (Str.ofString "fresh") pl pos (e::rest) (.ref .tree) (St.mk (some t) dk nw rl tb fid nam loc tmp cfid cnm cel glb) Q X:=A9s (A2o rfl) (A1r rfl) G.m_WindowTree_fresh (by unfold Tree.fields;rcases hS with e|e|e <;> (simp only [e];kernel_rfl)) he hplain h
theorem A6o(G:PG S)(hS:t.S5){pl:Sem Bool}{pos:Pos}{e:Expr}{rest:List Expr}{Q:AV→St→Prop}(he:starEach (e::rest) env=(false,eval e env)::starEach rest env)(hplain:(backTo pos (starEach rest env)).any (·.1)=false)(h:W S d r env (RL S) (spliced (backTo pos (starEach (e::rest) env))) (St.mk (some t) dk nw rl tb fid nam loc tmp cfid cnm cel glb) (fun as σ₁=>WC S d r env 140 (.ref .tree::as) σ₁ Q X) X):GM S d r env (Str.ofString "window") pl pos (e::rest) (.ref .tree) (St.mk (some t) dk nw rl tb fid nam loc tmp cfid cnm cel glb) Q X:=A9s (A2o rfl) (A1r rfl) G.m_WindowTree_window (by unfold Tree.fields;rcases hS with e|e|e <;> (simp only [e];kernel_rfl)) he hplain h
theorem A5c(G:PG S)(hS:t.S5){pl:Sem Bool}{pos:Pos}{e:Expr}{rest:List Expr}{Q:AV→St→Prop}(he:starEach (e::rest) env=(false,eval e env)::starEach rest env)(hplain:(backTo pos (starEach rest env)).any (·.1)=false)(h:W S d r env (RL S) (spliced (backTo pos (starEach (e::rest) env))) (St.mk (some t) dk nw rl tb fid nam loc tmp cfid cnm cel glb) (fun as σ₁=>WC S d r env 147 (.ref .tree::as) σ₁ Q X) X):GM S d r env (Str.ofString "leaf") pl pos (e::rest) (.ref .tree) (St.mk (some t) dk nw rl tb fid nam loc tmp cfid cnm cel glb) Q X:=A9s (A2o rfl) (A1r rfl) G.m_WindowTree_leaf (by unfold Tree.fields;rcases hS with e|e|e <;> (simp only [e];kernel_rfl)) he hplain h
theorem A4l(G:PG S)(hS:t.S5){pl:Sem Bool}{pos:Pos}{e:Expr}{rest:List Expr}{Q:AV→St→Prop}(he:starEach (e::rest) env=(false,eval e env)::starEach rest env)(hplain:(backTo pos (starEach rest env)).any (·.1)=false)(h:W S d r env (RL S) (spliced (backTo pos (starEach (e::rest) env))) (St.mk (some t) dk nw rl tb fid nam loc tmp cfid cnm cel glb) (fun as σ₁=>WC S d r env 154 (.ref .tree::as) σ₁ Q X) X):GM S d r env (Str.ofString "touch") pl pos (e::rest) (.ref .tree) (St.mk (some t) dk nw rl tb fid nam loc tmp cfid cnm cel glb) Q X:=A9s (A2o rfl) (A1r rfl) G.m_WindowTree_touch (by unfold Tree.fields;rcases hS with e|e|e <;> (simp only [e];kernel_rfl)) he hplain h
theorem A4f(G:PG S)(hS:t.S5){pl:Sem Bool}{pos:Pos}{e:Expr}{rest:List Expr}{Q:AV→St→Prop}(he:starEach (e::rest) env=(false,eval e env)::starEach rest env)(hplain:(backTo pos (starEach rest env)).any (·.1)=false)(h:W S d r env (RL S) (spliced (backTo pos (starEach (e::rest) env))) (St.mk (some t) dk nw rl tb fid nam loc tmp cfid cnm cel glb) (fun as σ₁=>WC S d r env 161 (.ref .tree::as) σ₁ Q X) X):GM S d r env (Str.ofString "select") pl pos (e::rest) (.ref .tree) (St.mk (some t) dk nw rl tb fid nam loc tmp cfid cnm cel glb) Q X:=A9s (A2o rfl) (A1r rfl) G.m_WindowTree_select (by unfold Tree.fields;rcases hS with e|e|e <;> (simp only [e];kernel_rfl)) he hplain h
theorem A4m(G:PG S)(hS:t.S5){pl:Sem Bool}{pos:Pos}{e:Expr}{rest:List Expr}{Q:AV→St→Prop}(he:starEach (e::rest) env=(false,eval e env)::starEach rest env)(hplain:(backTo pos (starEach rest env)).any (·.1)=false)(h:W S d r env (RL S) (spliced (backTo pos (starEach (e::rest) env))) (St.mk (some t) dk nw rl tb fid nam loc tmp cfid cnm cel glb) (fun as σ₁=>WC S d r env 168 (.ref .tree::as) σ₁ Q X) X):GM S d r env (Str.ofString "least_leaf") pl pos (e::rest) (.ref .tree) (St.mk (some t) dk nw rl tb fid nam loc tmp cfid cnm cel glb) Q X:=A9s (A2o rfl) (A1r rfl) G.m_WindowTree_least_leaf (by unfold Tree.fields;rcases hS with e|e|e <;> (simp only [e];kernel_rfl)) he hplain h
theorem B3w(G:PG S){fp pos:Pos}{e:Expr}{rest:List Expr}{Q:AV→St→Prop}(hx:Str.ofString "along"∈σ.glb)(he:starEach (e::rest) env=(false,eval e env)::starEach rest env)(hplain:(backTo pos (starEach rest env)).any (·.1)=false)(h:W S d r env (RL S) (spliced (backTo pos (starEach (e::rest) env))) σ (fun as σ₁=>WC S d r env 189 as σ₁ Q X) X):W S d r env (RV S) (eval (.Call (.Name (Str.ofString "along") fp) (e::rest) [] pos) env) σ Q X:=A1q hx G.g_along G.f_along.keep he hplain h
theorem B9f(G:PG S){fp pos:Pos}{e:Expr}{rest:List Expr}{Q:AV→St→Prop}(hx:Str.ofString "sort_along"∈σ.glb)(he:starEach (e::rest) env=(false,eval e env)::starEach rest env)(hplain:(backTo pos (starEach rest env)).any (·.1)=false)(h:W S d r env (RL S) (spliced (backTo pos (starEach (e::rest) env))) σ (fun as σ₁=>WC S d r env 196 as σ₁ Q X) X):W S d r env (RV S) (eval (.Call (.Name (Str.ofString "sort_along") fp) (e::rest) [] pos) env) σ Q X:=A1q hx G.g_sort_along G.f_sort_along.keep he hplain h
theorem A7m(G:PG S){fp pos:Pos}{e:Expr}{rest:List Expr}{Q:AV→St→Prop}(hx:Str.ofString "leaves_under"∈σ.glb)(he:starEach (e::rest) env=(false,eval e env)::starEach rest env)(hplain:(backTo pos (starEach rest env)).any (·.1)=false)(h:W S d r env (RL S) (spliced (backTo pos (starEach (e::rest) env))) σ (fun as σ₁=>WC S d r env 203 as σ₁ Q X) X):W S d r env (RV S) (eval (.Call (.Name (Str.ofString "leaves_under") fp) (e::rest) [] pos) env) σ Q X:=A1q hx G.g_leaves_under G.f_leaves_under.keep he hplain h
theorem A2x(G:PG S){fp pos:Pos}{e:Expr}{rest:List Expr}{Q:AV→St→Prop}(hx:Str.ofString "leaves"∈σ.glb)(he:starEach (e::rest) env=(false,eval e env)::starEach rest env)(hplain:(backTo pos (starEach rest env)).any (·.1)=false)(h:W S d r env (RL S) (spliced (backTo pos (starEach (e::rest) env))) σ (fun as σ₁=>WC S d r env 210 as σ₁ Q X) X):W S d r env (RV S) (eval (.Call (.Name (Str.ofString "leaves") fp) (e::rest) [] pos) env) σ Q X:=A1q hx G.g_leaves G.f_leaves.keep he hplain h
theorem A8r(G:PG S){fp pos:Pos}{e:Expr}{rest:List Expr}{Q:AV→St→Prop}(hx:Str.ofString "windows_under"∈σ.glb)(he:starEach (e::rest) env=(false,eval e env)::starEach rest env)(hplain:(backTo pos (starEach rest env)).any (·.1)=false)(h:W S d r env (RL S) (spliced (backTo pos (starEach (e::rest) env))) σ (fun as σ₁=>WC S d r env 217 as σ₁ Q X) X):W S d r env (RV S) (eval (.Call (.Name (Str.ofString "windows_under") fp) (e::rest) [] pos) env) σ Q X:=A1q hx G.g_windows_under G.f_windows_under.keep he hplain h
theorem B3u(G:PG S){fp pos:Pos}{e:Expr}{rest:List Expr}{Q:AV→St→Prop}(hx:Str.ofString "replace_child"∈σ.glb)(he:starEach (e::rest) env=(false,eval e env)::starEach rest env)(hplain:(backTo pos (starEach rest env)).any (·.1)=false)(h:W S d r env (RL S) (spliced (backTo pos (starEach (e::rest) env))) σ (fun as σ₁=>WC S d r env 224 as σ₁ Q X) X):W S d r env (RV S) (eval (.Call (.Name (Str.ofString "replace_child") fp) (e::rest) [] pos) env) σ Q X:=A1q hx G.g_replace_child G.f_replace_child.keep he hplain h
theorem B9h(G:PG S){fp pos:Pos}{e:Expr}{rest:List Expr}{Q:AV→St→Prop}(hx:Str.ofString "least_size"∈σ.glb)(he:starEach (e::rest) env=(false,eval e env)::starEach rest env)(hplain:(backTo pos (starEach rest env)).any (·.1)=false)(h:W S d r env (RL S) (spliced (backTo pos (starEach (e::rest) env))) σ (fun as σ₁=>WC S d r env 229 as σ₁ Q X) X):W S d r env (RV S) (eval (.Call (.Name (Str.ofString "least_size") fp) (e::rest) [] pos) env) σ Q X:=A1q hx G.g_least_size G.f_least_size.keep he hplain h
theorem B3t(G:PG S){fp pos:Pos}{e:Expr}{rest:List Expr}{Q:AV→St→Prop}(hx:Str.ofString "set_tree_size"∈σ.glb)(he:starEach (e::rest) env=(false,eval e env)::starEach rest env)(hplain:(backTo pos (starEach rest env)).any (·.1)=false)(h:W S d r env (RL S) (spliced (backTo pos (starEach (e::rest) env))) σ (fun as σ₁=>WC S d r env 239 as σ₁ Q X) X):W S d r env (RV S) (eval (.Call (.Name (Str.ofString "set_tree_size") fp) (e::rest) [] pos) env) σ Q X:=A1q hx G.g_set_tree_size G.f_set_tree_size.keep he hplain h
theorem B9g(G:PG S){fp pos:Pos}{e:Expr}{rest:List Expr}{Q:AV→St→Prop}(hx:Str.ofString "set_places"∈σ.glb)(he:starEach (e::rest) env=(false,eval e env)::starEach rest env)(hplain:(backTo pos (starEach rest env)).any (·.1)=false)(h:W S d r env (RL S) (spliced (backTo pos (starEach (e::rest) env))) σ (fun as σ₁=>WC S d r env 246 as σ₁ Q X) X):W S d r env (RV S) (eval (.Call (.Name (Str.ofString "set_places") fp) (e::rest) [] pos) env) σ Q X:=A1q hx G.g_set_places G.f_set_places.keep he hplain h
theorem B5i(G:PG S){fp pos:Pos}{e:Expr}{rest:List Expr}{Q:AV→St→Prop}(hx:Str.ofString "wrong_window"∈σ.glb)(he:starEach (e::rest) env=(false,eval e env)::starEach rest env)(hplain:(backTo pos (starEach rest env)).any (·.1)=false)(h:W S d r env (RL S) (spliced (backTo pos (starEach (e::rest) env))) σ (fun as σ₁=>WC S d r env 253 as σ₁ Q X) X):W S d r env (RV S) (eval (.Call (.Name (Str.ofString "wrong_window") fp) (e::rest) [] pos) env) σ Q X:=A1q hx G.g_wrong_window G.f_wrong_window.keep he hplain h
theorem B2e(G:PG S){fp pos:Pos}{e:Expr}{rest:List Expr}{Q:AV→St→Prop}(hx:Str.ofString "tree_error"∈σ.glb)(he:starEach (e::rest) env=(false,eval e env)::starEach rest env)(hplain:(backTo pos (starEach rest env)).any (·.1)=false)(h:W S d r env (RL S) (spliced (backTo pos (starEach (e::rest) env))) σ (fun as σ₁=>WC S d r env 260 as σ₁ Q X) X):W S d r env (RV S) (eval (.Call (.Name (Str.ofString "tree_error") fp) (e::rest) [] pos) env) σ Q X:=A1q hx G.g_tree_error G.f_tree_error.keep he hplain h
theorem A7w(G:PG S){fp pos:Pos}{e:Expr}{rest:List Expr}{Q:AV→St→Prop}(hx:Str.ofString "split_parts"∈σ.glb)(he:starEach (e::rest) env=(false,eval e env)::starEach rest env)(hplain:(backTo pos (starEach rest env)).any (·.1)=false)(h:W S d r env (RL S) (spliced (backTo pos (starEach (e::rest) env))) σ (fun as σ₁=>WC S d r env 267 as σ₁ Q X) X):W S d r env (RV S) (eval (.Call (.Name (Str.ofString "split_parts") fp) (e::rest) [] pos) env) σ Q X:=A1q hx G.g_split_parts G.f_split_parts.keep he hplain h
theorem B6e(G:PG S){fp pos:Pos}{e:Expr}{rest:List Expr}{Q:AV→St→Prop}(hx:Str.ofString "combined"∈σ.glb)(he:starEach (e::rest) env=(false,eval e env)::starEach rest env)(hplain:(backTo pos (starEach rest env)).any (·.1)=false)(h:W S d r env (RL S) (spliced (backTo pos (starEach (e::rest) env))) σ (fun as σ₁=>WC S d r env 274 as σ₁ Q X) X):W S d r env (RV S) (eval (.Call (.Name (Str.ofString "combined") fp) (e::rest) [] pos) env) σ Q X:=A1q hx G.g_combined G.f_combined.keep he hplain h
theorem C0t(G:PG S){fp pos:Pos}{e:Expr}{rest:List Expr}{Q:AV→St→Prop}(hx:Str.ofString "split"∈σ.glb)(he:starEach (e::rest) env=(false,eval e env)::starEach rest env)(hplain:(backTo pos (starEach rest env)).any (·.1)=false)(h:W S d r env (RL S) (spliced (backTo pos (starEach (e::rest) env))) σ (fun as σ₁=>WC S d r env 281 as σ₁ Q X) X):W S d r env (RV S) (eval (.Call (.Name (Str.ofString "split") fp) (e::rest) [] pos) env) σ Q X:=A1q hx G.g_split G.f_split.keep he hplain h
theorem C6x(G:PG S){fp pos:Pos}{e:Expr}{rest:List Expr}{Q:AV→St→Prop}(hx:Str.ofString "joined"∈σ.glb)(he:starEach (e::rest) env=(false,eval e env)::starEach rest env)(hplain:(backTo pos (starEach rest env)).any (·.1)=false)(h:W S d r env (RL S) (spliced (backTo pos (starEach (e::rest) env))) σ (fun as σ₁=>WC S d r env 288 as σ₁ Q X) X):W S d r env (RV S) (eval (.Call (.Name (Str.ofString "joined") fp) (e::rest) [] pos) env) σ Q X:=A1q hx G.g_joined G.f_joined.keep he hplain h
theorem B6z(G:PG S){fp pos:Pos}{e:Expr}{rest:List Expr}{Q:AV→St→Prop}(hx:Str.ofString "split_below"∈σ.glb)(he:starEach (e::rest) env=(false,eval e env)::starEach rest env)(hplain:(backTo pos (starEach rest env)).any (·.1)=false)(h:W S d r env (RL S) (spliced (backTo pos (starEach (e::rest) env))) σ (fun as σ₁=>WC S d r env 296 as σ₁ Q X) X):W S d r env (RV S) (eval (.Call (.Name (Str.ofString "split_below") fp) (e::rest) [] pos) env) σ Q X:=A1q hx G.g_split_below G.f_split_below.keep he hplain h
theorem B6y(G:PG S){fp pos:Pos}{e:Expr}{rest:List Expr}{Q:AV→St→Prop}(hx:Str.ofString "split_right"∈σ.glb)(he:starEach (e::rest) env=(false,eval e env)::starEach rest env)(hplain:(backTo pos (starEach rest env)).any (·.1)=false)(h:W S d r env (RL S) (spliced (backTo pos (starEach (e::rest) env))) σ (fun as σ₁=>WC S d r env 304 as σ₁ Q X) X):W S d r env (RV S) (eval (.Call (.Name (Str.ofString "split_right") fp) (e::rest) [] pos) env) σ Q X:=A1q hx G.g_split_right G.f_split_right.keep he hplain h
theorem B9e(G:PG S){fp pos:Pos}{e:Expr}{rest:List Expr}{Q:AV→St→Prop}(hx:Str.ofString "windows_of"∈σ.glb)(he:starEach (e::rest) env=(false,eval e env)::starEach rest env)(hplain:(backTo pos (starEach rest env)).any (·.1)=false)(h:W S d r env (RL S) (spliced (backTo pos (starEach (e::rest) env))) σ (fun as σ₁=>WC S d r env 331 as σ₁ Q X) X):W S d r env (RV S) (eval (.Call (.Name (Str.ofString "windows_of") fp) (e::rest) [] pos) env) σ Q X:=A1q hx G.g_windows_of G.f_windows_of.keep he hplain h
theorem B3s(G:PG S){fp pos:Pos}{e:Expr}{rest:List Expr}{Q:AV→St→Prop}(hx:Str.ofString "without"∈σ.glb)(he:starEach (e::rest) env=(false,eval e env)::starEach rest env)(hplain:(backTo pos (starEach rest env)).any (·.1)=false)(h:W S d r env (RL S) (spliced (backTo pos (starEach (e::rest) env))) σ (fun as σ₁=>WC S d r env 336 as σ₁ Q X) X):W S d r env (RV S) (eval (.Call (.Name (Str.ofString "without") fp) (e::rest) [] pos) env) σ Q X:=A1q hx G.g_without G.f_without.keep he hplain h
theorem B0l(G:PG S){fp pos:Pos}{e:Expr}{rest:List Expr}{Q:AV→St→Prop}(hx:Str.ofString "show_buffer"∈σ.glb)(he:starEach (e::rest) env=(false,eval e env)::starEach rest env)(hplain:(backTo pos (starEach rest env)).any (·.1)=false)(h:W S d r env (RL S) (spliced (backTo pos (starEach (e::rest) env))) σ (fun as σ₁=>WC S d r env 342 as σ₁ Q X) X):W S d r env (RV S) (eval (.Call (.Name (Str.ofString "show_buffer") fp) (e::rest) [] pos) env) σ Q X:=A1q hx G.g_show_buffer G.f_show_buffer.keep he hplain h
theorem A9y(G:PG S){fp pos:Pos}{e:Expr}{rest:List Expr}{Q:AV→St→Prop}(hx:Str.ofString "split_for"∈σ.glb)(he:starEach (e::rest) env=(false,eval e env)::starEach rest env)(hplain:(backTo pos (starEach rest env)).any (·.1)=false)(h:W S d r env (RL S) (spliced (backTo pos (starEach (e::rest) env))) σ (fun as σ₁=>WC S d r env 349 as σ₁ Q X) X):W S d r env (RV S) (eval (.Call (.Name (Str.ofString "split_for") fp) (e::rest) [] pos) env) σ Q X:=A1q hx G.g_split_for G.f_split_for.keep he hplain h
theorem B1q(G:PG S){fp pos:Pos}{e:Expr}{rest:List Expr}{Q:AV→St→Prop}(hx:Str.ofString "split_somewhere"∈σ.glb)(he:starEach (e::rest) env=(false,eval e env)::starEach rest env)(hplain:(backTo pos (starEach rest env)).any (·.1)=false)(h:W S d r env (RL S) (spliced (backTo pos (starEach (e::rest) env))) σ (fun as σ₁=>WC S d r env 356 as σ₁ Q X) X):W S d r env (RV S) (eval (.Call (.Name (Str.ofString "split_somewhere") fp) (e::rest) [] pos) env) σ Q X:=A1q hx G.g_split_somewhere G.f_split_somewhere.keep he hplain h
theorem C6w(G:PG S){fp pos:Pos}{e:Expr}{rest:List Expr}{Q:AV→St→Prop}(hx:Str.ofString "usable"∈σ.glb)(he:starEach (e::rest) env=(false,eval e env)::starEach rest env)(hplain:(backTo pos (starEach rest env)).any (·.1)=false)(h:W S d r env (RL S) (spliced (backTo pos (starEach (e::rest) env))) σ (fun as σ₁=>WC S d r env 361 as σ₁ Q X) X):W S d r env (RV S) (eval (.Call (.Name (Str.ofString "usable") fp) (e::rest) [] pos) env) σ Q X:=A1q hx G.g_usable G.f_usable.keep he hplain h
theorem A5v(G:PG S){fp pos:Pos}{e:Expr}{rest:List Expr}{Q:AV→St→Prop}(hx:Str.ofString "display_buffer"∈σ.glb)(he:starEach (e::rest) env=(false,eval e env)::starEach rest env)(hplain:(backTo pos (starEach rest env)).any (·.1)=false)(h:W S d r env (RL S) (spliced (backTo pos (starEach (e::rest) env))) σ (fun as σ₁=>WC S d r env 367 as σ₁ Q X) X):W S d r env (RV S) (eval (.Call (.Name (Str.ofString "display_buffer") fp) (e::rest) [] pos) env) σ Q X:=A1q hx G.g_display_buffer G.f_display_buffer.keep he hplain h
theorem B3v(G:PG S){fp pos:Pos}{e:Expr}{rest:List Expr}{Q:AV→St→Prop}(hx:Str.ofString "pop_to_buffer"∈σ.glb)(he:starEach (e::rest) env=(false,eval e env)::starEach rest env)(hplain:(backTo pos (starEach rest env)).any (·.1)=false)(h:W S d r env (RL S) (spliced (backTo pos (starEach (e::rest) env))) σ (fun as σ₁=>WC S d r env 374 as σ₁ Q X) X):W S d r env (RV S) (eval (.Call (.Name (Str.ofString "pop_to_buffer") fp) (e::rest) [] pos) env) σ Q X:=A1q hx G.g_pop_to_buffer G.f_pop_to_buffer.keep he hplain h
theorem A1n(G:PG S){fp pos:Pos}{e:Expr}{rest:List Expr}{Q:AV→St→Prop}(hx:Str.ofString "_law_draw"∈σ.glb)(he:starEach (e::rest) env=(false,eval e env)::starEach rest env)(hplain:(backTo pos (starEach rest env)).any (·.1)=false)(h:W S d r env (RL S) (spliced (backTo pos (starEach (e::rest) env))) σ (fun as σ₁=>WC S d r env 381 as σ₁ Q X) X):W S d r env (RV S) (eval (.Call (.Name (Str.ofString "_law_draw") fp) (e::rest) [] pos) env) σ Q X:=A1q hx G.g_law_draw G.f_law_draw.keep he hplain h
theorem A7c(G:PG S){fp pos:Pos}{e:Expr}{rest:List Expr}{Q:AV→St→Prop}(hx:Str.ofString "_law_splits"∈σ.glb)(he:starEach (e::rest) env=(false,eval e env)::starEach rest env)(hplain:(backTo pos (starEach rest env)).any (·.1)=false)(h:W S d r env (RL S) (spliced (backTo pos (starEach (e::rest) env))) σ (fun as σ₁=>WC S d r env 388 as σ₁ Q X) X):W S d r env (RV S) (eval (.Call (.Name (Str.ofString "_law_splits") fp) (e::rest) [] pos) env) σ Q X:=A1q hx G.g_law_splits G.f_law_splits.keep he hplain h
theorem B9i(G:PG S){fp pos:Pos}{e:Expr}{rest:List Expr}{Q:AV→St→Prop}(hx:Str.ofString "_law_chosen"∈σ.glb)(he:starEach (e::rest) env=(false,eval e env)::starEach rest env)(hplain:(backTo pos (starEach rest env)).any (·.1)=false)(h:W S d r env (RL S) (spliced (backTo pos (starEach (e::rest) env))) σ (fun as σ₁=>WC S d r env 393 as σ₁ Q X) X):W S d r env (RV S) (eval (.Call (.Name (Str.ofString "_law_chosen") fp) (e::rest) [] pos) env) σ Q X:=A1q hx G.g_law_chosen G.f_law_chosen.keep he hplain h
section
variable {P P':Key→Prop} {z z':Gh} {y:Gy} {Φ Φ':Key→Addr} {s s':Shared}
noncomputable def C6g:List (Str×AV)→St→(St→Prop)→Prop
 | [],σ,K=>K σ
 | (x,a)::l,σ,K=>A9c σ x a fun σ'=>C6g l σ' K
theorem C9y{A:Around}{E:Value→Shared→Prop}{K:St→Prop}{ns:List Str}{as:List AV}{vs:List Value}{σ:St}{s:Shared}{Kk:Unit→Shared→Prop}(hs:Sim S env σ P z y Φ s)(hv:A0c S P z Φ as vs)(hl:ns.length=as.length)(h:C6g (ns.zip as) σ K)
  (k: ∀σ' s',Sim S env σ' P z y Φ s'→K σ'→Kk () s'):wpAny (model S.prog S.w) A (assignInOrder (ns.map fun n=>bindName env n) vs) Kk E s:=by
 induction ns generalizing as vs σ s with
 |nil=>
  cases as with
  |nil=>obtain rfl:=A4z hv;exact assignInOrder_nil (k _ _ hs h)
  |cons a as=>contradiction
 |cons x ns ih=>
  cases as with
  |nil=>contradiction
  |cons a as=>
  refine A1x hv.uncons fun v rr y9a hv1 hr=>?_
  subst y9a
  refine A0e h fun l' hp hq=>?_
  exact assignInOrder_cons (bindName_ (A3b hs hp hv1 fun s' hs'=>ih hs' hr (Nat.succ.inj hl) hq))
theorem A0c.reverse{l:List AV}{vs:List Value}(h:A0c S P z Φ l vs):A0c S P z Φ l.reverse vs.reverse:=by
 induction l generalizing vs with
 |nil=>obtain rfl:=A4z h;exact A0c.nil
 |cons a l ih=>obtain ⟨v,rr,rfl,hv,hr⟩:=h.uncons;simp only [List.reverse_cons,List.reverse_cons];exact A0c.app (ih hr) (A0c.cons hv A0c.nil)
theorem B2c{elts:List Expr}{k tpos value pos}{names:List Str}{Q:AF→St→Prop}(hs:swapsWithSole [.Tuple elts k tpos] value pos.line env=pure false)(hw:swappedStores [.Tuple elts k tpos] value env=pure (some names))
  (h:W S d r env (RV S) (eval value env) σ (fun a σ₁=> ∃l,a= .tup l∧l.length=names.length∧C6g (names.reverse.zip l.reverse) σ₁ (Q .next)) X):W S d r env (RF S) (exec (.Assign [.Tuple elts k tpos] value pos) env) σ Q X:=fun A P z y Φ s hA hsim=>by
 refine Assign_Tuple_swapped (names:=names) (h.run hA hsim (fun v s₁ P₁ z₁ Φ₁ σ₁ a x₁ r₁ hs₁ h₁=>?_) fun _ _ e=>e) hs hw
 refine A2u h₁ fun l y9a hl hp=>?_
 try clear h₁
 obtain rfl:=y9a
 refine A3m (A7p r₁) fun b its c y9a hz hv=>?_
 obtain rfl:=y9a
 have hsz:its.size=names.length:=by have:=hv.len;simp only [Array.length_toList]at this;exact this.trans hl
 simp only [←hsz]
 refine unpackItems_tuple hA.h ⟨_,hs₁.core.zin _ _ hz,rfl,c,rfl⟩ fun h' he=>?_
 have hs₂:=hs₁.grow h' s₁.toks s₁.drawn (fun a o e=>he a o (Nat.ne_of_lt (Heap.lt_size e)) e)
 exact C9y hs₂ hv.reverse (by simp [hl]) hp fun σ' s' hs' hq=>Res.intro (b:= .next) x₁ A1y hs' hq
noncomputable def A9e(S:SP)(d:Nat)(r:Bool)(env:Env)(X:St→Prop):List Expr→List AV→St→(St→Prop)→Prop
 | [],[],σ,K=>K σ
 |e::es,a::as,σ,K=>W1 S d r env (RV S) RU (fun v=>assign e env v) a σ (fun _ σ'=>A9e S d r env X es as σ' K) X
 |_,_,_,_=>False
theorem A8e{K:St→Prop}(h:K σ):A9e S d r env X [] [] σ K:=h
theorem A4q{x:Str}{p:Pos}{es:List Expr}{a:AV}{as:List AV}{K:St→Prop}(h:A9c σ x a fun σ'=>A9e S d r env X es as σ' K):A9e S d r env X (.Name x p::es) (a::as) σ K:=fun A P z y Φ s v hA hs hv=>by
 refine A0e h fun l' hp hq=>?_
 try clear h
 exact assign_Name (A3b hs hp hv fun s' hs'=>Res.of (b:=()) hs' trivial hq)
theorem A4d{o:Expr}{f:Str}{p:Pos}{es:List Expr}{a:AV}{as:List AV}{K:St→Prop}
  (h:W S d r env (RV S) (eval o env) σ (fun b σ₁=>W1 S d r env (R2 S) RU (fun v:Value×Value=>setAttr v.1 f v.2) (b,a) σ₁ (fun _ σ'=>A9e S d r env X es as σ' K) X) X):A9e S d r env X (.Attribute o f p::es) (a::as) σ K:=fun A P z y Φ s v hA hs hv=>by
 show wpAny _ A (assign (.Attribute o f p) env v) _ _ s
 simp only [assign_Attribute]
 refine wpAny_bind (wpAny_holding (h.run hA hs (fun u s₁ P₁ z₁ Φ₁ σ₁ b x₁ r₁ hs₁ h₁=>?_) fun e s' hx=>hx))
 refine wpAny_bind (wpAny_standAt ?_)
 refine wpAny_bind (wpAny_holding ?_)
 exact W1.run (v:=(u,v)) h₁ hA hs₁ ⟨r₁,A1i.mono x₁.toExt0 _ _ hv⟩ (fun c s₃ P₃ z₃ Φ₃ σ₃ g x₃ r₃ hs₃ q=>wpAny_release ⟨P₃,z₃,Φ₃,σ₃,(),x₁.trans x₃,trivial,hs₃,q⟩) fun e s' hx=>hx.ext x₁
theorem D1b{A:Around}{K:St→Prop}{es:List Expr}{as:List AV}{vs:List Value}{σ:St}{P z Φ}{s:Shared}(hA:AOK d r env y A)(hst: ∀e∈es,∀t p,e≠ .Starred t p)(hs:Sim S env σ P z y Φ s)(hv:A0c S P z Φ as vs)(h:A9e S d r env X es as σ K):
  wpAny (model S.prog S.w) A (assignInOrder ((assignEach es env).map (·.2)) vs) (Res S env RU P z y Φ fun _=>K) (A9p S env P z y Φ X) s:=by
 induction es generalizing as vs σ P z Φ s with
 |nil=>
  cases as with
  |nil=>obtain rfl:=A4z hv;exact assignInOrder_nil (Res.of (b:=()) hs trivial h)
  |cons a as=>exact h.elim
 |cons e es ih=>
  cases as with
  |nil=>exact h.elim
  |cons a as=>
  refine A1x hv.uncons fun v rr y9a hv1 hr=>?_
  subst y9a
  have he:assignEach (e::es) env=(false,assign e env)::assignEach es env:=by
   cases e <;> first|rfl|exact absurd rfl (hst _ (.head _) _ _)
  rw [he]
  refine assignInOrder_cons (W1.run (show W1 S d r env (RV S) RU (fun v=>assign e env v) a σ (fun _ σ'=>A9e S d r env X es as σ' K) X from h) hA hs hv1 (fun c s₃ P₃ z₃ Φ₃ σ₃ g x₃ r₃ hs₃ q=>?_) fun e s' hx=>hx)
  exact wpAny_mono (ih (fun e he=>hst e (.tail _ he)) hs₃ (A0c.mono x₃.toExt0 _ _ hr) q) (fun a s' hr=>Res.ext x₃ hr) fun e s' hx=>A9p.ext x₃ hx
theorem B8u{elts:List Expr}{k tpos value pos}{Q:AF→St→Prop}(hs:swapsWithSole [.Tuple elts k tpos] value pos.line env=pure false)(hw:swappedStores [.Tuple elts k tpos] value env=pure none)
  (hst: ∀e∈elts,∀t p,e≠ .Starred t p) (hln:(assignEach elts env).length=elts.length) (hfi:(assignEach elts env).findIdx? (·.1)=none)
  (h:W S d r env (RV S) (eval value env) σ (fun a σ₁=> ∃l,a= .tup l∧l.length=elts.length∧A9e S d r env X elts l σ₁ (Q .next)) X):W S d r env (RF S) (exec (.Assign [.Tuple elts k tpos] value pos) env) σ Q X:=fun A P z y Φ s hA hsim=>by
 refine Assign_Tuple (h.run hA hsim (fun v s₁ P₁ z₁ Φ₁ σ₁ a x₁ r₁ hs₁ h₁=>?_) fun _ _ e=>e) hs hw
 refine A2u h₁ fun l y9a hl hp=>?_
 try clear h₁
 obtain rfl:=y9a
 refine A3m (A7p r₁) fun b its c y9a hz hv=>?_
 obtain rfl:=y9a
 have hsz:its.size=elts.length:=by have:=hv.len;simp only [Array.length_toList]at this;exact this.trans hl
 refine assign_Tuple_tuple hA.h ⟨_,hs₁.core.zin _ _ hz,rfl,c,rfl⟩ (by exact Z12 hln hsz) hfi fun h' he=>?_
 have hs₂:=hs₁.grow h' s₁.toks s₁.drawn (fun a o e=>he a o (Nat.ne_of_lt (Heap.lt_size e)) e)
 exact wpAny_mono (D1b hA hst hs₂ hv hp) (fun a s' hr=>hr.el fun _ _ _ _ _ x _ hs' hq=>Res.intro (b:= .next) (x₁.trans x) A1y hs' hq) fun e s' hx=>A9p.ext x₁ hx
noncomputable def D5d(σ:St)(c:CO)(x:Str)(K:St→Prop):Prop:=A9c {σ with tmp:=σ.tmp++ [some c]} x (.ref (.tmp σ.fid σ.tmp.length)) K
theorem C5c{c:CO}{x:Str}{K:St→Prop}{l'}(h:Put nam loc x (.ref (.tmp fid 0)) l')(k:K (St.mk tr dk nw rl tb fid nam (l') ([some c]) cfid cnm cel glb)):D5d (St.mk tr dk nw rl tb fid nam loc ([]) cfid cnm cel glb) c x K:=⟨l',h,k⟩
theorem D2f{c c0:CO}{x:Str}{K:St→Prop}{l'}(h:Put nam loc x (.ref (.tmp fid 1)) l')(k:K (St.mk tr dk nw rl tb fid nam (l') ([some c0,some c]) cfid cnm cel glb)):D5d (St.mk tr dk nw rl tb fid nam loc ([some c0]) cfid cnm cel glb) c x K:=⟨l',h,k⟩
theorem A6j{x:Str}{p' elts lp pos}{Q:AF→St→Prop}(h:W S d r env (RL S) (spliced (backTo lp (starEach elts env))) σ (fun as σ₁=>as.length≤1000∧D5d σ₁ (.list as) x (Q .next)) X):
  W S d r env (RF S) (exec (.Assign [.Name x p'] (.List elts lp) pos) env) σ Q X:=B6s h
noncomputable def D3k(tmp:List (Option CO))(k:Nat)(l l':List AV)(tmp':List (Option CO)):Prop:=tmp[k]? =some (some (.list l))∧tmp'=tmp.set k (some (.list l'))
theorem C2m{l l':List AV}{tm:List (Option CO)}:D3k (some (.list l)::tm) 0 l l' (some (.list l')::tm):=⟨rfl,rfl⟩
theorem C6q{l l':List AV}{c:Option CO}{tm:List (Option CO)}:D3k (c::some (.list l)::tm) 1 l l' (c::some (.list l')::tm):=⟨rfl,rfl⟩
noncomputable def D3y(tmp:List (Option CO))(k:Nat)(l:List AV):Prop:=tmp[k]? =some (some (.list l))
theorem C8d{l:List AV}{tm:List (Option CO)}:D3y (some (.list l)::tm) 0 l:=rfl
theorem D2u{l:List AV}{c:Option CO}{tm:List (Option CO)}:D3y (c::some (.list l)::tm) 1 l:=rfl
noncomputable def D5t(σ:St)(k:Nat)(a:AV)(K:St→Prop):Prop:= ∃l,σ.tmp[k]? =some (some (.list l))∧l.length≤100000∧K {σ with tmp:=σ.tmp.set k (some (.list (l++ [a])))}
theorem D3t{k:Nat}{a:AV}{K:St→Prop}{l:List AV}{tmp'}(h:D3k tmp k l (l++ [a]) tmp')(hl:l.length≤100000)(hk:K (St.mk tr dk nw rl tb fid nam loc (tmp') cfid cnm cel glb)):D5t (St.mk (tr) dk nw rl tb fid nam loc tmp cfid cnm cel glb) k a K:=⟨l,h.1,hl,by rw [h.2]at hk;exact hk⟩
theorem B3a{pl:Sem Bool}{pos:Pos}{e:Expr}{k:Nat}{l₀:List AV}{Q:AV→St→Prop}(he:starEach [e] env= [(false,eval e env)])(h0:D3y tmp k l₀)
  (h:W S d r env (RV S) (eval e env) (St.mk (tr) dk nw rl tb fid nam loc tmp cfid cnm cel glb) (fun a σ₁=>D5t σ₁ k a (Q .none)) X):GM S d r env (Str.ofString "append") pl pos [e] (.ref (.tmp fid k)) (St.mk (tr) dk nw rl tb fid nam loc tmp cfid cnm cel glb) Q X:=C5s (σ:=(St.mk (tr) dk nw rl tb fid nam loc tmp cfid cnm cel glb)) he h0 h
noncomputable def D5s(σ:St)(k:Nat)(a:AV)(K:St→Prop):Prop:= ∃l l₂,a= .lst l₂∧σ.tmp[k]? =some (some (.list l))∧l.length≤100000∧l₂.length≤100000∧K {σ with tmp:=σ.tmp.set k (some (.list (l++l₂)))}
theorem D5k{k:Nat}{l₂:List AV}{K:St→Prop}{l:List AV}{tmp'}(h:D3k tmp k l (l++l₂) tmp')(hl:l.length≤100000)(hl2:l₂.length≤100000)(hk:K (St.mk tr dk nw rl tb fid nam loc (tmp') cfid cnm cel glb)):D5s (St.mk (tr) dk nw rl tb fid nam loc tmp cfid cnm cel glb) k (.lst l₂) K:=⟨l,l₂,rfl,h.1,hl,hl2,by rw [h.2]at hk;exact hk⟩
theorem C1y{pl:Sem Bool}{pos:Pos}{e:Expr}{k:Nat}{l₀:List AV}{Q:AV→St→Prop}(he:starEach [e] env= [(false,eval e env)])(h0:D3y tmp k l₀)
  (h:W S d r env (RV S) (eval e env) (St.mk (tr) dk nw rl tb fid nam loc tmp cfid cnm cel glb) (fun a σ₁=>D5s σ₁ k a (Q .none)) X):GM S d r env (Str.ofString "extend") pl pos [e] (.ref (.tmp fid k)) (St.mk (tr) dk nw rl tb fid nam loc tmp cfid cnm cel glb) Q X:=C5r (σ:=(St.mk (tr) dk nw rl tb fid nam loc tmp cfid cnm cel glb)) he h0 h
theorem C8f{pl:Sem Bool}{pos:Pos}{k:Nat}{l:List AV}{a:AV}{tmp':List (Option CO)}{Q:AV→St→Prop}(h0:D3k tmp k (l++ [a]) l tmp')(hl:l.length≤100000)(h:Q a (St.mk tr dk nw rl tb fid nam loc (tmp') cfid cnm cel glb)):
  GM S d r env (Str.ofString "pop") pl pos [] (.ref (.tmp fid k)) (St.mk (tr) dk nw rl tb fid nam loc tmp cfid cnm cel glb) Q X:=D2v (σ:=(St.mk (tr) dk nw rl tb fid nam loc tmp cfid cnm cel glb)) h0.1 hl (by rw [h0.2]at h;exact h)
theorem C1c{l:List AV}{tm:List (Option CO)}:LA S (St.mk tr dk nw rl tb fid nam loc (some (.list l)::tm) cfid cnm cel glb) (.ref (.tmp fid 0)) l:=C9d (σ:=(St.mk tr dk nw rl tb fid nam loc (some (.list l)::tm) cfid cnm cel glb)) rfl
theorem C5i{l:List AV}{c:Option CO}{tm:List (Option CO)}:LA S (St.mk tr dk nw rl tb fid nam loc (c::some (.list l)::tm) cfid cnm cel glb) (.ref (.tmp fid 1)) l:=C9d (σ:=(St.mk tr dk nw rl tb fid nam loc (c::some (.list l)::tm) cfid cnm cel glb)) rfl
theorem B0c(h2:t.get n=some w):LA S (St.mk (some t) dk nw rl tb fid nam loc tmp cfid cnm cel glb) (.ref (.kid n w.ver)) (w.kids.map .int):=D2o rfl h2
theorem C1z{l:List AV}{tm:List (Option CO)}{K:AV→St→Prop}(h:K (.lst l) (St.mk tr dk nw rl tb fid nam loc (some (.list l)::tm) cfid cnm cel glb)):A4r (.ret (.ref (.tmp fid 0))) (St.mk tr dk nw rl tb fid nam loc (some (.list l)::tm) cfid cnm cel glb) K:=C8h (σ:=(St.mk tr dk nw rl tb fid nam loc (some (.list l)::tm) cfid cnm cel glb)) rfl h
theorem A3t{a:AV}{l:List AV}{Q:AV→St→Prop}(hl:LA S (St.mk (tr) dk nw rl tb fid nam loc tmp cfid cnm cel glb) a l)(h:Q (.bool (!l.isEmpty)) (St.mk (tr) dk nw rl tb fid nam loc tmp cfid cnm cel glb)):W1 S d r env (R2 S) (RV S) (fun v:Value×Value=>compareOp .NotEq v.1 v.2) (a,.lst []) (St.mk (tr) dk nw rl tb fid nam loc tmp cfid cnm cel glb) Q X:=C7h hl h
theorem A9u{a:AV}{l:List AV}{Q:AV→St→Prop}(hl:LA S (St.mk (tr) dk nw rl tb fid nam loc tmp cfid cnm cel glb) a l)(hb:l.length≤100000)(h:Q (.int l.length) (St.mk (tr) dk nw rl tb fid nam loc tmp cfid cnm cel glb)):WB S d r env (.builtin "len") [a] (St.mk (tr) dk nw rl tb fid nam loc tmp cfid cnm cel glb) Q X:=b_len hl hb h
end
section
variable {P P':Key→Prop} {z z':Gh} {y:Gy} {Φ Φ':Key→Addr} {s s':Shared}
noncomputable def B9q(a:AV):Bool:=match a with| .none=>true|_=>false
theorem C5b{a:AV}{v:Value}(ha:a≠ .opq)(h:A1i S P z Φ a v):(v == .none)=B9q a:=by
 cases a with
 |none=>rw [A7z h];rfl
 |opq=>exact absurd rfl ha
 |bool b=>rw [A8d h];rfl
 |int i=>obtain ⟨t,rfl⟩:=A0r h;rfl
 |str x=>obtain ⟨t,rfl⟩:=A9r h;rfl
 |ref k=>rw [(A1s h).2];rfl
 |lst l=>obtain ⟨a,_,_,rfl,_⟩:=A8h h;rfl
 |tup l=>obtain ⟨a,_,_,rfl,_⟩:=A7p h;rfl
 |dic ks l=>obtain ⟨a,_,_,rfl,_⟩:=B1b h;rfl
 |rul r c=>obtain ⟨a,_,_,_,_,_,rfl,_⟩:=C4q h;rfl
theorem A8u{a:AV}{Q:AV→St→Prop}(ha:a≠ .opq)(h:Q (.bool (B9q a)) σ):W1 S d r env (R2 S) (RV S) (fun v:Value×Value=>compareOp .Is v.1 v.2) (a,.none) σ Q X:=fun A P z y Φ s v hA hs hv=>by
 obtain ⟨v1,v2⟩:=v
 have e2:v2= .none:=A7z hv.2
 subst e2
 exact is_none_gen (by rw [C5b ha hv.1];exact Res.of (b:= .bool (B9q a)) hs A7i h)
theorem A8t{a:AV}{Q:AV→St→Prop}(ha:a≠ .opq)(h:Q (.bool (!B9q a)) σ):W1 S d r env (R2 S) (RV S) (fun v:Value×Value=>compareOp .IsNot v.1 v.2) (a,.none) σ Q X:=fun A P z y Φ s v hA hs hv=>by
 obtain ⟨v1,v2⟩:=v
 have e2:v2= .none:=A7z hv.2
 subst e2
 exact isnot_none_gen (by rw [C5b ha hv.1];exact Res.of (b:= .bool (!B9q a)) hs A7i h)
theorem C4i(x y:Str):(x.cps.toList == y.cps.toList)=decide (x=y):=by
 by_cases h:x=y
 ·subst h;simp
 ·rw [decide_eq_false h,beq_eq_false_iff_ne]
  intro e;apply h;cases x;cases y;simp only [Str.mk.injEq];exact Array.toList_inj.mp e
theorem A9j{x u:Str}{Q:AV→St→Prop}(h:Q (.bool (decide (x=u))) σ):W1 S d r env (R2 S) (RV S) (fun v:Value×Value=>compareOp .Eq v.1 v.2) (.str x,.str u) σ Q X:=fun A P z y Φ s v hA hs hv=>by
 obtain ⟨v1,v2⟩:=v
 obtain ⟨t1,e1⟩:=A9r hv.1;obtain ⟨t2,e2⟩:=A9r hv.2
 dsimp only at e1 e2;subst e1 e2
 exact PySem.P.eq_str (by rw [C4i];exact Res.of (b:= .bool _) hs A7i h)
theorem B7d{x u:Str}{Q:AV→St→Prop}(h:Q (.bool (!decide (x=u))) σ):W1 S d r env (R2 S) (RV S) (fun v:Value×Value=>compareOp .NotEq v.1 v.2) (.str x,.str u) σ Q X:=fun A P z y Φ s v hA hs hv=>by
 obtain ⟨v1,v2⟩:=v
 obtain ⟨t1,e1⟩:=A9r hv.1;obtain ⟨t2,e2⟩:=A9r hv.2
 dsimp only at e1 e2;subst e1 e2
 exact PySem.P.ne_str (by simp only [show(x.cps.toList != u.cps.toList)= !(x.cps.toList == u.cps.toList) from rfl,C4i];exact Res.of (b:= .bool _) hs A7i h)
theorem C8w{l:List Int}{vs:List Value}(h:A0c S P z Φ (l.map .int) vs)(k:Int):vs.any (isInt k)=l.any (· == k):=by
 induction l generalizing vs with
 |nil=>obtain rfl:=A4z h;rfl
 |cons a l ih=>obtain ⟨v,rr,rfl,hv,hr⟩:=h.uncons;obtain ⟨t,rfl⟩:=A0r hv;simp only [List.any_cons,isInt,ih hr]
theorem C5a{a:AV}{l:List Int}{k:Int}{Q:AV→St→Prop}(hl:LA S σ a (l.map .int))(h:Q (.bool (l.any (· == k))) σ):W1 S d r env (R2 S) (RV S) (fun v:Value×Value=>compareOp .In v.1 v.2) (.int k,a) σ Q X:=fun A P z y Φ s v hA hs hv=>by
 obtain ⟨v1,v2⟩:=v
 refine A0i (A0r hv.1) fun t1 e1=>A3m (hl.at hs hv.2) fun b its n e2 g1 g2=>?_
 dsimp only at e1 e2;subst e1 e2
 refine SeqInW.in_listW (isInt k) (fun u hu=>C5m g2 k t1 u (by simpa using hu)) (items:=its) ⟨_,g1,rfl,n,rfl⟩ ?_
 rw [←Array.any_toList,C8w g2]
 exact Res.of (b:= .bool _) hs A7i h
theorem B8x{ks:List Int}{vs:List Value}(hl:ks.length=vs.length)(k:Int):(valueAt (ks.zip vs) k).isSome=ks.any (· == k):=by
 unfold valueAt
 induction ks generalizing vs with
 |nil=>rfl
 |cons a ks ih=>
  cases vs with
  |nil=>contradiction
  |cons v vs=>
   simp only [List.zip_cons_cons,List.find?_cons,List.any_cons]
   by_cases q:a=k
   ·simp [q]
   ·have:=ih (by simpa using hl)
    have q':(a == k)=false:=by simpa using q
    simp only [q'];simpa [q]using this
theorem C7i{ks:List Int}{l:List AV}{k:Int}{Q:AV→St→Prop}(h:Q (.bool (ks.any (· == k))) σ):W1 S d r env (R2 S) (RV S) (fun v:Value×Value=>compareOp .In v.1 v.2) (.int k,.dic ks l) σ Q X:=fun A P z y Φ s v hA hs hv=>by
 obtain ⟨v1,v2⟩:=v
 refine A0i (A0r hv.1) fun t1 e1=>?_
 have hv1:=hv.2
 refine B4q (B1b hv1) fun c o vs e2 hn hz hd hk hl=>?_
 try clear hv1
 dsimp only at e1;subst e1 e2
 have g1:s.heap.DictOf (intKind S.prog S.w) c (ks.zip vs):=Heap.dictOf_iff.mpr ⟨o,hs.core.zin _ _ hz,hd⟩
 refine wpAny_in_of (intKind_is _ _ k t1) (by simpa using hn) g1.mapOf ?_
 simp only [B8x hk]
 exact Res.of (b:= .bool _) (hs.tok _) A7i h
noncomputable def B9l(o:Option Win)(n:Int):AV:=match o with|some _=> .ref (.win n)|none=> .none
theorem B8y{ks:List Int}{vs:List Value}{n:Int}(h:n∉ks):valueAt (ks.zip vs) n=none:=by
 unfold valueAt
 rw [Option.map_eq_none_iff,List.find?_eq_none]
 rintro ⟨a,b⟩ hab
 have:=(List.of_mem_zip hab).1
 simpa using fun e:a=n=>h (e▸this)
theorem C8g{pl:Sem Bool}{pos:Pos}{e1 e2:Expr}{Q:AV→St→Prop}(he:starEach [e1,e2] env= [(false,eval e1 env),(false,eval e2 env)])(hS:t.S5)
  (h:W S d r env (RV S) (eval e1 env) (St.mk (some t) dk nw rl tb fid nam loc tmp cfid cnm cel glb) (fun a σ₁=>W S d r env (RV S) (eval e2 env) σ₁ (fun b σ₂=> ∃n:Int,a= .int n∧b= .none∧σ₂.tr=some t∧Q (B9l (t.get n) n) σ₂) X) X):
  GM S d r env (Str.ofString "get") pl pos [e1,e2] (.ref .wdic) (St.mk (some t) dk nw rl tb fid nam loc tmp cfid cnm cel glb) Q X:=fun A P z y Φ s v hA hs hv=>by
 refine A0f (A1s hv) fun hp y9a=>?_
 obtain rfl:=y9a
 refine A6d (hs.core.rep _ _ (A7d rfl hS.one)) fun vs g0 g1 g2 g3=>A0e (Heap.dictOf_iff.mp g1) fun o ho y9a=>A0i y9a fun hd _=>getMethod_builtin (T:= "dict") g1.typeIs F.plainAttrs_dict F.slot_dict_get F.type_dict_get g1.mapOf.noDict ?_
 rw [he]
 refine wpAny_dict_get2 (knd:=intKind S.prog S.w) (by simpa using g0) ((h.run hA hs (fun u s₁ P₁ z₁ Φ₁ σ₁ a x₁ r₁ hs₁ h₁=>h₁.run hA hs₁ (fun u2 s₂ P₂ z₂ Φ₂ σ₂ b x₂ r₂ hs₂ h₂=>?_) fun e s' hx=>hx.ext x₁) fun e s' hx=>hx))
 refine A6d h₂ fun n y9a y9b h3 hq=>?_
 try clear h₂
 obtain rfl:=y9a
 obtain rfl:=y9b
 refine A0i (A0r r₁) fun tk y9a=>?_
 obtain rfl:=y9a
 have e2:u2= .none:=A7z r₂
 subst e2
 refine A6d (hs₂.core.rep _ _ (A7d h3 hS.one)) fun vs' g0' g1' g2' g3'=>?_
 rw [(x₁.trans x₂).f _ hp]at g1'
 refine B2o n _ (intKind_is _ _ n tk) g1'.mapOf ?_
 cases hg:t.get n with
 |none=>
  rw [B8y (Tree.get_none hg)]
  rw [hg]at hq
  exact Res.intro (b:= .none) (x₁.trans x₂) B6u (hs₂.tok _) hq
 |some w=>
  obtain ⟨u,q1,q2⟩:=B6b g3' g2' (n:=n) (a:= .ref (.win n)) (by simp only [A9w,hg];rfl)
  simp only [q1]
  rw [hg]at hq
  exact Res.intro (b:= .ref (.win n)) (x₁.trans x₂) q2 (hs₂.tok _) hq
theorem D2d{a b:AV}{l l':List AV}{Q:AV→St→Prop}(hl:LA S σ a l)(hl':LA S σ b l')(h1:l.length≤100000)(h2:l'.length≤100000)(h:Q (.lst (l++l')) σ):W1 S d r env (R2 S) (RV S) (fun v:Value×Value=>binaryOp .Add v.1 v.2) (a,b) σ Q X:=fun A P z y Φ s v hA hs hv=>by
 obtain ⟨v1,v2⟩:=v
 refine A3m (hl.at hs hv.1) fun c its n e1 g1 g2=>A3m (hl'.at hs hv.2) fun c' its' n' e2 g1' g2'=>?_
 dsimp only at e1 e2;subst e1 e2
 have z1:=g2.size;have z2:=g2'.size
 exact PySem.P.add_list g1 g1' (A7v hs (by simp only [Array.toList_append];exact A0c.app g2 g2') h) (by have:=sizeLine_eq;lia)
theorem b_list{a:AV}{l:List AV}{Q:AV→St→Prop}(hl:LA S σ a l)(hb:l.length≤100000)(h:Q (.lst l) σ):WB S d r env (.type "list") [a] σ Q X:=fun A P z y Φ s vs hA hs hv=>by
 refine A1x hv.uncons fun v rr y9a hv1 hr=>?_
 obtain rfl:=y9a
 have:rr= []:=hr
 subst this
 refine A3m (hl.at hs hv1) fun c its n y9a g1 g2=>?_
 obtain rfl:=y9a
 have z1:=g2.size
 refine call_list_seq c (.inl rfl) g1 rfl rfl (fun h' c' hk hn=>?_) (by have:=sizeLine_eq;exact Z11 hb z1 this)
 refine A0f (hs.core.freezeNew h' s.toks s.drawn hk (A0y _) hn) fun cc xx=>?_
 exact Res.intro (b:= .lst l) (z':=fun a=>if a=s.heap.objs.size then some ⟨.type "list",none,.seq its c',#[]⟩else z a) ⟨xx,fun _ _ _ h=> .inl h,fun _ h=> .inl h⟩ (C6l (if_pos rfl) (A0c.mono xx _ _ g2))
  ⟨cc,hs.ok,hs.eok,hs.pin,hs.fid,hs.loc,fun f hf=>let ⟨o,e⟩:=hs.top f hf;⟨o,hk _ _ e⟩,hs.cel,hs.ll,hs.lc⟩ h
theorem C2g{i j:Int}{Q:AV→St→Prop}(h:Q (.int (if j>i then j else i)) σ):WB S d r env (.builtin "max") [.int i,.int j] σ Q X:=fun A P z y Φ s vs hA hs hv=>by
 refine A1x hv.uncons fun v1 rr y9a hv1 hr=>?_
 obtain rfl:=y9a
 obtain ⟨v2,rr,rfl,hv2,hr⟩:=hr.uncons
 have:rr= []:=hr
 subst this
 obtain ⟨t1,rfl⟩:=A0r hv1;obtain ⟨t2,rfl⟩:=A0r hv2
 refine max_two_ints hA.h fun h' tk hk=>?_
 have hs':=hs.grow h' tk s.drawn hk
 refine Res.of (b:= .int (if j>i then j else i)) hs' ?_ h
 by_cases q:j>i
 ·rw [if_pos q,if_pos q];exact B5f
 ·rw [if_neg q,if_neg q];exact B5f
theorem b_abs{i:Int}{Q:AV→St→Prop}(h:Q (.int (if i<0 then -i else i)) σ):WB S d r env (.builtin "abs") [.int i] σ Q X:=fun A P z y Φ s vs hA hs hv=>by
 refine A1x hv.uncons fun v1 rr y9a hv1 hr=>?_
 obtain rfl:=y9a
 have:rr= []:=hr
 subst this
 refine A0i (A0r hv1) fun t1 y9a=>?_
 obtain rfl:=y9a
 exact call_abs_int fun u tk=>Res.of (b:= .int _) (hs.tok _) B5f h
theorem C1d{k:Nat}{f:Str}{a:AV}{Q:Unit→St→Prop}(hn:tr.bind (·.get n)=none)(hk:k<16)(h3:k≠3)(hw:f∈A7u)(hp:A8m f a ((w.fields n).take k)=(w.fields n).take (k+1))(h:Q () (St.mk tr dk (some (n,k+1,w)) rl tb fid nam loc tmp cfid cnm cel glb)):
  W1 S d r env (R2 S) RU (fun v:Value×Value=>setAttr v.1 f v.2) (.ref (.win n),a) (St.mk tr dk (some (n,k,w)) rl tb fid nam loc tmp cfid cnm cel glb) Q X:=D5v (σ:=(St.mk tr dk (some (n,k,w)) rl tb fid nam loc tmp cfid cnm cel glb)) (by exact((A2h rfl hn).trans (if_pos rfl))) hk h3 hw hp h
theorem D0m{x:Str}{xp fp lp pos:Pos}{Q:AF→St→Prop}(hn:tr.bind (·.get n)=none)(hx:Has nam loc x (.ref (.win n)))(hw:w.kids= []∧w.ver=0)(h:Q .next (St.mk tr dk (some (n,4,w)) rl tb fid nam loc tmp cfid cnm cel glb)):
  W S d r env (RF S) (exec (.Assign [.Attribute (.Name x xp) (Str.ofString "children") fp] (.List [] lp) pos) env) (St.mk tr dk (some (n,3,w)) rl tb fid nam loc tmp cfid cnm cel glb) Q X:=C9p (σ:=(St.mk tr dk (some (n,3,w)) rl tb fid nam loc tmp cfid cnm cel glb)) hx (by exact((A2h rfl hn).trans (if_pos rfl))) hw h
theorem C7y{Q:Unit→St→Prop}(hS:t.S5)(hn:t.get n=none)(hlen:t.wins.length≤1000)(h:Q () (St.mk (some (t.add n w)) dk (none) rl tb fid nam loc tmp cfid cnm cel glb)):
  W1 S d r env (R3 S) RU (fun v:Value×Value×Value=>setItem v.1 v.2.1 v.2.2) (.ref .wdic,.int n,.ref (.win n)) (St.mk (some t) dk (some (n,16,w)) rl tb fid nam loc tmp cfid cnm cel glb) Q X:=C4k (σ:=(St.mk (some t) dk (some (n,16,w)) rl tb fid nam loc tmp cfid cnm cel glb)) rfl hS rfl hn hlen h
theorem C6y(G:PG S){fp pos:Pos}{e:Expr}{rest:List Expr}{Q:AV→St→Prop}(hx:Str.ofString "Window"∈σ.glb)(he:starEach (e::rest) env=(false,eval e env)::starEach rest env)(hplain:(backTo pos (starEach rest env)).any (·.1)=false)(h:W S d r env (RL S) (spliced (backTo pos (starEach (e::rest) env))) σ (fun as σ₁=>WC S d r env S.CW as σ₁ Q X) X):W S d r env (RV S) (eval (.Call (.Name (Str.ofString "Window") fp) (e::rest) [] pos) env) σ Q X:=A1q hx G.k_Window.1 G.k_Window.2.1 he hplain h
theorem C5l{pl:Sem Bool}{pos:Pos}{e:Expr}{Q:AV→St→Prop}(he:starEach [e] env= [(false,eval e env)])(h2:t.get n=some w)
  (h:W S d r env (RV S) (eval e env) (St.mk (some t) dk nw rl tb fid nam loc tmp cfid cnm cel glb) (fun b σ₁=> ∃(k:Int) (l':List Int),b= .int k∧LA S σ₁ (.ref (.kid n w.ver)) (l'.map .int)∧l'.length≤100000∧k∈l'∧Q (.int (l'.idxOf k)) σ₁) X):
  GM S d r env (Str.ofString "index") pl pos [e] (.ref (.kid n w.ver)) (St.mk (some t) dk nw rl tb fid nam loc tmp cfid cnm cel glb) Q X:=C1v he (B0c h2) h
theorem C7w{k:Nat}{i:Int}{Q:Unit→St→Prop}(h2:t.get n=some w)(hk:k<w.kids.length)(hlen:w.kids.length≤100000)(h:Q () (St.mk (some (t.put n (w.s_kids (w.kids.set k i)))) dk nw rl tb fid nam loc tmp cfid cnm cel glb)):
  W1 S d r env (R3 S) RU (fun v:Value×Value×Value=>setItem v.1 v.2.1 v.2.2) (.ref (.kid n w.ver),.int k,.int i) (St.mk (some t) dk nw rl tb fid nam loc tmp cfid cnm cel glb) Q X:=D1t rfl h2 hk hlen h
theorem C7x{pl:Sem Bool}{pos:Pos}{e:Expr}{rest:List Expr}{Q:AV→St→Prop}(he:starEach (e::rest) env=(false,eval e env)::starEach rest env)(hplain:(backTo pos (starEach rest env)).any (·.1)=false)(h2:t.get n=some w)
  (h:W S d r env (RL S) (spliced (backTo pos (starEach (e::rest) env))) (St.mk (some t) dk nw rl tb fid nam loc tmp cfid cnm cel glb) (fun as σ₁=> ∃(k:Nat) (i:Int),as= [.int k,.int i]∧w.kids.length≤100000∧k≤w.kids.length∧σ₁.tr=some t∧
   Q .none {σ₁ with tr:=some (t.put n (w.s_kids (w.kids.take k++i::w.kids.drop k)))}) X):
  GM S d r env (Str.ofString "insert") pl pos (e::rest) (.ref (.kid n w.ver)) (St.mk (some t) dk nw rl tb fid nam loc tmp cfid cnm cel glb) Q X:=C5q he hplain rfl h2 (h.mono (fun as σ' h=>D0x h fun k i h1 h3 h4 h5 h6=>⟨k,i,t,w,h1,h5,h2,rfl,h3,h4,h6⟩) fun _ h=>h)
theorem D0k{x x2:Str}{xp fp x2p pos:Pos}{k:Nat}{ks:List Int}{Q:AF→St→Prop}(hsw:swapsWith (.Name x2 x2p) (some (.Attribute (.Name x xp) (Str.ofString "children") fp)) pos.line env=pure false)(hx2:Has nam loc x2 (.ref (.tmp fid k)))(hx:Has nam loc x (.ref (.win n)))(h0:tmp[k]? =some (some (.list (ks.map .int))))(h2:t.get n=some w)
  (h:Q .next (St.mk (some (t.put n ((w.s_kids ks).s_ver (w.ver+1)))) dk nw rl tb fid nam loc (tmp.set k none) cfid cnm cel glb)):
  W S d r env (RF S) (exec (.Assign [.Attribute (.Name x xp) (Str.ofString "children") fp] (.Name x2 x2p) pos) env) (St.mk (some t) dk nw rl tb fid nam loc tmp cfid cnm cel glb) Q X:=C9n (σ:=(St.mk (some t) dk nw rl tb fid nam loc tmp cfid cnm cel glb)) hsw hx2 hx h0 rfl h2 h
noncomputable def D3m(S:SP)(x:Str)(as:List AV)(σ:St)(K:St→Prop):Prop:= ∃(ks:List Int) (n:Int) (t:Tree) (w:Win),as=ks.map .int∧ks.length≤1000∧Has σ.nam σ.loc x (.ref (.win n))∧σ.tr=some t∧t.get n=some w∧K {σ with tr:=some (t.put n ((w.s_kids ks).s_ver (w.ver+1)))}
theorem D0l{x:Str}{xp fp lp pos:Pos}{elts:List Expr}{Q:AF→St→Prop}(h:W S d r env (RL S) (spliced (backTo lp (starEach elts env))) σ (fun as σ₁=>D3m S x as σ₁ (Q .next)) X):
  W S d r env (RF S) (exec (.Assign [.Attribute (.Name x xp) (Str.ofString "children") fp] (.List elts lp) pos) env) σ Q X:=C9o h
theorem D4l{x:Str}{ks:List Int}{K:St→Prop}(h1:ks.length≤1000)(h2:Has nam loc x (.ref (.win n)))(h3:t.get n=some w)(h:K (St.mk (some (t.put n ((w.s_kids ks).s_ver (w.ver+1)))) dk nw rl tb fid nam loc tmp cfid cnm cel glb)):D3m S x (ks.map .int) (St.mk (some t) dk nw rl tb fid nam loc tmp cfid cnm cel glb) K:=⟨ks,n,t,w,rfl,h1,h2,rfl,h3,h⟩
end
theorem B2m(G:PG S){fp pos:Pos}{e:Expr}{rest:List Expr}{Q:AV→St→Prop}(hx:Str.ofString "len"∈σ.glb)(he:starEach (e::rest) env=(false,eval e env)::starEach rest env)(hplain:(backTo pos (starEach rest env)).any (·.1)=false)(h:W S d r env (RL S) (spliced (backTo pos (starEach (e::rest) env))) σ (fun as σ₁=>WB S d r env (.builtin "len") as σ₁ Q X) X):W S d r env (RV S) (eval (.Call (.Name (Str.ofString "len") fp) (e::rest) [] pos) env) σ Q X:=B3k hx G.b_len.1 G.b_len.2 (fun a h=>by contradiction) he hplain h
theorem C4r(G:PG S){fp pos:Pos}{e:Expr}{rest:List Expr}{Q:AV→St→Prop}(hx:Str.ofString "max"∈σ.glb)(he:starEach (e::rest) env=(false,eval e env)::starEach rest env)(hplain:(backTo pos (starEach rest env)).any (·.1)=false)(h:W S d r env (RL S) (spliced (backTo pos (starEach (e::rest) env))) σ (fun as σ₁=>WB S d r env (.builtin "max") as σ₁ Q X) X):W S d r env (RV S) (eval (.Call (.Name (Str.ofString "max") fp) (e::rest) [] pos) env) σ Q X:=B3k hx G.b_max.1 G.b_max.2 (fun a h=>by contradiction) he hplain h
theorem C1t(G:PG S){fp pos:Pos}{e:Expr}{rest:List Expr}{Q:AV→St→Prop}(hx:Str.ofString "sorted"∈σ.glb)(he:starEach (e::rest) env=(false,eval e env)::starEach rest env)(hplain:(backTo pos (starEach rest env)).any (·.1)=false)(h:W S d r env (RL S) (spliced (backTo pos (starEach (e::rest) env))) σ (fun as σ₁=>WB S d r env (.builtin "sorted") as σ₁ Q X) X):W S d r env (RV S) (eval (.Call (.Name (Str.ofString "sorted") fp) (e::rest) [] pos) env) σ Q X:=B3k hx G.b_sorted.1 G.b_sorted.2 (fun a h=>by contradiction) he hplain h
theorem D4c(G:PG S){fp pos:Pos}{e:Expr}{rest:List Expr}{Q:AV→St→Prop}(hx:Str.ofString "abs"∈σ.glb)(he:starEach (e::rest) env=(false,eval e env)::starEach rest env)(hplain:(backTo pos (starEach rest env)).any (·.1)=false)(h:W S d r env (RL S) (spliced (backTo pos (starEach (e::rest) env))) σ (fun as σ₁=>WB S d r env (.builtin "abs") as σ₁ Q X) X):W S d r env (RV S) (eval (.Call (.Name (Str.ofString "abs") fp) (e::rest) [] pos) env) σ Q X:=B3k hx G.b_abs.1 G.b_abs.2 (fun a h=>by contradiction) he hplain h
theorem D1v(G:PG S){fp pos:Pos}{e:Expr}{rest:List Expr}{Q:AV→St→Prop}(hx:Str.ofString "list"∈σ.glb)(he:starEach (e::rest) env=(false,eval e env)::starEach rest env)(hplain:(backTo pos (starEach rest env)).any (·.1)=false)(h:W S d r env (RL S) (spliced (backTo pos (starEach (e::rest) env))) σ (fun as σ₁=>WB S d r env (.type "list") as σ₁ Q X) X):W S d r env (RV S) (eval (.Call (.Name (Str.ofString "list") fp) (e::rest) [] pos) env) σ Q X:=B3k hx G.b_list.1 G.b_list.2 (fun a h=>by contradiction) he hplain h
theorem C1h{x:Str}{body:List Stmt}{Q:AF→St→Prop}{l:List AV}(I:List AV→St→Prop)(h0:I l σ)(step: ∀a l σ,let K:AF→St→Prop:=fun f σ''=>B8q f σ'' (I l) Q;I (a::l) σ→A9c σ x a fun σ'=>W S d r env (RF S) (execs body env) σ' K fun _=>False)
  (fin: ∀σ,I [] σ→Q .next σ):C3t S d r env x body Q l σ:=by
 induction l generalizing σ with
 |nil=>exact fin σ h0
 |cons a l ih=>
  refine A0e (step a l σ h0) fun l' hp hw=>A1f l' hp (hw.mono (fun f σ'' hq=>?_) fun _ h=>h)
  cases f with
  |next=>exact ih hq
  |ret a=>exact hq
theorem A9l{ι:Type}{g:ι→AV}{x:Str}{body:List Stmt}{Q:AF→St→Prop}{l:List AV}{L:List ι}(I:List ι→St→Prop)(e:l=L.map g)(h0:I L σ)(step: ∀a l σ,let K:AF→St→Prop:=fun f σ''=>B8q f σ'' (I l) Q;I (a::l) σ→A9c σ x (g a) fun σ'=>W S d r env (RF S) (execs body env) σ' K fun _=>False)
  (fin: ∀σ,I [] σ→Q .next σ):C3t S d r env x body Q l σ:=by
 subst e
 induction L generalizing σ with
 |nil=>exact fin σ h0
 |cons a l ih=>
  refine A0e (step a l σ h0) fun l' hp hw=>A1f l' hp (hw.mono (fun f σ'' hq=>?_) fun _ h=>h)
  cases f with
  |next=>exact ih hq
  |ret a=>exact hq
theorem B0s{ι:Type}{g:ι→AV}{x:Str}{body:List Stmt}{Q:AF→St→Prop}{k:Key}{l₀ l:List AV}{L:List ι}(I:List ι→St→Prop)(e:l=L.map g)(h0:I L σ)(ho: ∀l σ,I l σ→σ.obj S k=some (.list l₀))(step: ∀a l σ,let K:AF→St→Prop:=fun f σ''=>B8q f σ'' (I l) Q;I (a::l) σ→A9c σ x (g a) fun σ'=>W S d r env (RF S) (execs body env) σ' K fun _=>False)
  (fin: ∀σ,I [] σ→Q .next σ):C8x S d r env x body k l₀ Q l σ:=by
 subst e
 induction L generalizing σ with
 |nil=>exact⟨ho _ _ h0,fin σ h0⟩
 |cons a l ih=>
  refine A0e (step a l σ h0) fun l' hp hw=>A8b (ho _ _ h0) (A1f l' hp (hw.mono (fun f σ'' hq=>?_) fun _ h=>h))
  cases f with
  |next=>exact ih hq
  |ret a=>exact hq
noncomputable def Ts2(x1 x2:Str)(a:AV)(σ:St)(K:St→Prop):Prop:= ∃a1 a2,a= .tup [a1,a2]∧A9c σ x2 a2 fun σ'=>A9c σ' x1 a1 K
theorem ts2{x1 x2:Str}{a1 a2:AV}{K:St→Prop}(h:A9c σ x2 a2 fun σ'=>A9c σ' x1 a1 K):Ts2 x1 x2 (.tup [a1,a2]) σ K:=⟨a1,a2,rfl,h⟩
theorem A5k{elts:List Expr}{k tpos value pos}{x1 x2:Str}{Q:AF→St→Prop}(hs:swapsWithSole [.Tuple elts k tpos] value pos.line env=pure false)(hw:swappedStores [.Tuple elts k tpos] value env=pure (some [x1,x2]))
  (h:W S d r env (RV S) (eval value env) σ (fun a σ₁=>Ts2 x1 x2 a σ₁ (Q .next)) X):W S d r env (RF S) (exec (.Assign [.Tuple elts k tpos] value pos) env) σ Q X:=
 B2c hs hw (h.mono (fun a σ' ⟨a1,a2,e,hp⟩=>⟨_,e,rfl,hp⟩) fun _ h=>h)
noncomputable def Ts3(x1 x2 x3:Str)(a:AV)(σ:St)(K:St→Prop):Prop:= ∃a1 a2 a3,a= .tup [a1,a2,a3]∧A9c σ x3 a3 fun σ=>A9c σ x2 a2 fun σ'=>A9c σ' x1 a1 K
theorem ts3{x1 x2 x3:Str}{a1 a2 a3:AV}{K:St→Prop}(h:A9c σ x3 a3 fun σ=>A9c σ x2 a2 fun σ'=>A9c σ' x1 a1 K):Ts3 x1 x2 x3 (.tup [a1,a2,a3]) σ K:=⟨a1,a2,a3,rfl,h⟩
theorem B8v{elts:List Expr}{k tpos value pos}{x1 x2 x3:Str}{Q:AF→St→Prop}(hs:swapsWithSole [.Tuple elts k tpos] value pos.line env=pure false)(hw:swappedStores [.Tuple elts k tpos] value env=pure (some [x1,x2,x3]))
  (h:W S d r env (RV S) (eval value env) σ (fun a σ₁=>Ts3 x1 x2 x3 a σ₁ (Q .next)) X):W S d r env (RF S) (exec (.Assign [.Tuple elts k tpos] value pos) env) σ Q X:=
 B2c hs hw (h.mono (fun a σ' ⟨a1,a2,a3,e,hp⟩=>⟨_,e,rfl,hp⟩) fun _ h=>h)
noncomputable def Tup(S:SP)(d:Nat)(r:Bool)(env:Env)(X:St→Prop)(elts:List Expr)(a:AV)(σ:St)(K:St→Prop):Prop:= ∃l,a= .tup l∧l.length=elts.length∧A9e S d r env X elts l σ K
theorem C6m{elts:List Expr}{l:List AV}{K:St→Prop}(hl:l.length=elts.length)(h:A9e S d r env X elts l σ K):Tup S d r env X elts (.tup l) σ K:=⟨l,rfl,hl,h⟩
theorem A2d{elts:List Expr}{k tpos value pos}{Q:AF→St→Prop}(hs:swapsWithSole [.Tuple elts k tpos] value pos.line env=pure false)(hw:swappedStores [.Tuple elts k tpos] value env=pure none)
  (hst:elts.all (fun e=>match e with| .Starred ..=>false|_=>true)=true) (hln:(assignEach elts env).length=elts.length) (hfi:(assignEach elts env).findIdx? (·.1)=none)
  (h:W S d r env (RV S) (eval value env) σ (fun a σ₁=>Tup S d r env X elts a σ₁ (Q .next)) X):W S d r env (RF S) (exec (.Assign [.Tuple elts k tpos] value pos) env) σ Q X:=
 B8u hs hw (fun e he t p q=>by have:=List.all_eq_true.mp hst e he;rw [q]at this;exact k4 this) hln hfi h
section
variable {P P':Key→Prop} {z z':Gh} {y:Gy} {Φ Φ':Key→Addr} {s s':Shared}
theorem Sim.newdict(hs:Sim S env σ P z y Φ s)(hm:s.heap.get? mainGlobals≠none):
  ∃P' Φ',Ext env.locals y P z Φ P' z Φ'∧Sim S env {σ with tmp:=σ.tmp++ [some (.idic [] [])]} P' z y Φ' {s with heap:=s.heap.push {cls:= .type "dict",data:= .dict #[]}}∧A1i S P' z Φ' (.ref (.tmp σ.fid σ.tmp.length)) (.ref s.heap.objs.size):=by
 have hn: ¬P (.tmp σ.fid σ.tmp.length):=fun h=>Nat.lt_irrefl _ (hs.pin.tmp _ h)
 have k: ∀a o,s.heap.get? a=some o→(s.heap.push {cls:= .type "dict",data:= .dict #[]}).get? a=some o:=fun _ _ e=>Heap.get?_push_of_some _ e
 have hne: ∀j,P j→j≠ .tmp σ.fid σ.tmp.length:=fun j hj e=>hn (e▸hj)
 have nm:s.heap.objs.size≠sysModules:=by
  refine A0i (Option.ne_none_iff_exists'.mp hm) fun o e=>?_
  have h1:(3:Nat)<s.heap.objs.size:=Heap.lt_size e
  intro q;have q:s.heap.objs.size=1:=q;exact Z13 h1 q
 obtain ⟨c,x⟩:=hs.core.alloc (ob':=({σ with tmp:=σ.tmp++ [some (.idic [] [])]}:St).obj S) (s.heap.push {cls:= .type "dict",data:= .dict #[]}) s.toks s.drawn k (b:=s.heap.objs.size) (q:= .tmp σ.fid σ.tmp.length) (o:= .idic [] []) (A0y _) hn
  ⟨[],nm,Heap.DictOf.new _,rfl,A0c.nil⟩ (fun j hj=>B6g j hj) (by simp [St.obj])
 have pl:P (.loc σ.fid):=hs.core.al _ _ A1l
 have fr: ∀f,D1n (.tmp σ.fid σ.tmp.length) f→f=σ.fid:=fun f h=>by rcases h with h| ⟨k,h⟩| ⟨k,h⟩|h|h <;> cases h;rfl
 have pin:PInv {σ with tmp:=σ.tmp++ [some (.idic [] [])]} (fun j=>P j∨j= .tmp σ.fid σ.tmp.length):=by
  refine⟨fun k h=>?_,fun n h=>hs.pin.win n (h.imp (fun h=>h.resolve_right (k9 rfl)) fun h=>h.resolve_right (k9 rfl)),fun n v h=>hs.pin.kid n v (h.resolve_right (k9 rfl)),fun h=>hs.pin.tree (h.imp (fun h=>h.resolve_right (k9 rfl)) fun h=>h.resolve_right (k9 rfl)),fun h=>hs.pin.wdic (h.resolve_right (k9 rfl)),fun h=>hs.pin.deck (h.resolve_right (k9 rfl))⟩
  simp only [List.length_append]
  rcases h with h|h
  ·have:=hs.pin.tmp k h;exact Nat.lt_succ_of_lt this
  ·cases h;exact Nat.lt_succ_self _
 obtain ⟨xe,hs'⟩:=hs.addkey hn (fun _ _ e=>e) c ⟨rfl,rfl,rfl,rfl,rfl,rfl,rfl⟩ pin (fun f h=> .inl (.inl (fr f h▸pl))) (fun f k h=>by cases h;rfl)
  (fun f h=>by rw [fr f h];obtain ⟨o,e⟩:=hs.top _ (.inl pl);exact⟨o,k _ _ e⟩) (fun f ⟨o,e⟩=>⟨o,k _ _ e⟩)
 refine B2o _ _ xe hs' ?_
 have e:(if Key.tmp σ.fid σ.tmp.length=Key.tmp σ.fid σ.tmp.length then s.heap.objs.size else Φ (.tmp σ.fid σ.tmp.length))=s.heap.objs.size:=if_pos rfl
 have:=C4e (S:=S) (P:=fun j=>P j∨j= .tmp σ.fid σ.tmp.length) (z:=z) (Φ:=fun j=>if j= .tmp σ.fid σ.tmp.length then s.heap.objs.size else Φ j) (k:= .tmp σ.fid σ.tmp.length) (.inr rfl)
 rw [e]at this;exact this
theorem Sim.main(hs:Sim S env σ P z y Φ s):s.heap.get? mainGlobals≠none:=by
 refine A8c hs.ok.g fun o _ _ e _=>?_
 rw [hs.keep _ _ e];simp
theorem C4b{x:Str}{p' lp pos}{Q:AF→St→Prop}(h: ∃l',Put cnm cel x (.ref (.tmp fid 0)) l'∧Q .next (St.mk tr dk nw rl tb fid nam loc ([some (.idic [] [])]) cfid cnm (l') glb)):
  W S d r env (RF S) (exec (.Assign [.Name x p'] (.Dict [] [] lp) pos) env) (St.mk tr dk nw rl tb fid nam loc ([]) cfid cnm cel glb) Q X:=fun A P z y Φ s hA hs=>by
 refine wpAny_Assign_Name (wpAny_Dict_empty ?_) rfl
 refine A1x (hs.newdict hs.main) fun P₂ Φ₂ x₂ hs₂ hv=>A0e h fun l' hp hq=>?_
 try clear h
 exact B9b hs₂ hp hv fun s' hs'=>Res.intro (b:= .next) x₂ A1y hs' hq
theorem C4j{n:Int}{a:AV}{ks:List Int}{l:List AV}{Q:Unit→St→Prop}(hn:n∉ks)(hl:ks.length=l.length)(hlen:ks.length≤1000)(h:Q () (St.mk tr dk nw rl tb fid nam loc ([some (.idic (ks++ [n]) (l++ [a]))]) cfid cnm cel glb)):
  W1 S d r env (R3 S) RU (fun v:Value×Value×Value=>setItem v.1 v.2.1 v.2.2) (.ref (.tmp fid 0),.int n,a) (St.mk tr dk nw rl tb fid nam loc ([some (.idic ks l)]) cfid cnm cel glb) Q X:=fun A P z y Φ s v hA hs hv=>by
 obtain ⟨v1,v2,v3⟩:=v
 refine A0f (A1s hv.1) fun _ e1=>A0i (A0r hv.2.1) fun t2 e2=>?_
 dsimp only at e1 e2;subst e1 e2
 have ot:((St.mk tr dk nw rl tb fid nam loc ([some (.idic ks l)]) cfid cnm cel glb):St).obj S (.tmp fid 0)=some (.idic ks l):=by simp [St.obj]
 refine A6d (hs.core.rep _ _ ot) fun vs g0 g1 g2 g3=>wpAny_setItem_pairs (intKind_is _ _ n t2) g1 (fun h' hd hb=>?_) (by rw [List.length_zip];have:=sizeLine_eq;lia)
 rw [A8q hn g2]at hd
 refine A0e (Heap.dictOf_iff.mp hd) fun oo hoo _=>?_
 refine Res.of (b:=()) (hs.setobj (σ':=(St.mk tr dk nw rl tb fid nam loc ([some (.idic (ks++ [n]) (l++ [a]))]) cfid cnm cel glb)) (tk:=s.toks+1) ot (fun b o hb' e=>(hb.2 b hb').trans e) hoo (o:= .idic (ks++ [n]) (l++ [a]))
  ⟨_,g0,hd,by simpa using g2,A0c.app g3 (A0c.cons hv.2.2 A0c.nil)⟩ (fun j hj=>?_) (by simp [St.obj]) ⟨rfl,rfl,rfl,rfl,rfl,rfl,rfl⟩ ⟨hs.pin.tmp,hs.pin.win,hs.pin.kid,hs.pin.tree,hs.pin.wdic,hs.pin.deck⟩) trivial h
 cases j with
 |tmp f i=>
  simp only [St.obj]
  by_cases hf:f=fid
  ·subst hf
   cases i with
   |zero=>exact absurd rfl hj
   |succ i=>rfl
  ·simp [hf]
 |_=>rfl
theorem C8c{value slice:Expr}{n:Int}{b:AV}{ks:List Int}{l:List AV}{Q:AV→St→Prop}(hb:(ks.zip l).lookup n=some b)(hsl: ∀o i,subscripted slice false o i=operate [o,i] (getItem o i))(h:Q b (St.mk tr dk nw rl tb fid nam loc ([some (.idic ks l)]) cfid cnm cel glb)):
  W1 S d r env (R2 S) (RV S) (fun v:Value×Value=>subscriptTail value slice v.1 v.2) (.ref (.tmp fid 0),.int n) (St.mk tr dk nw rl tb fid nam loc ([some (.idic ks l)]) cfid cnm cel glb) Q X:=fun A P z y Φ s v hA hs hv=>by
 obtain ⟨v1,v2⟩:=v
 refine A0f (A1s hv.1) fun _ e1=>A0i (A0r hv.2) fun t2 e2=>?_
 dsimp only at e1 e2;subst e1 e2
 have ot:((St.mk tr dk nw rl tb fid nam loc ([some (.idic ks l)]) cfid cnm cel glb):St).obj S (.tmp fid 0)=some (.idic ks l):=by simp [St.obj]
 refine A6d (hs.core.rep _ _ ot) fun vs g0 g1 g2 g3=>A0e (B6b g3 g2 hb) fun u q1 q2=>?_
 exact tail_any g1.typeIs slot_dict_getitem.lookup (wpAny_getItem_of (intKind_is _ _ n t2) g1.mapOf q1 (Res.of (b:=b) (hs.tok _) q2 h)) (hsl _ _)
theorem A6a{value slice:Expr}{a b:AV}{l:List AV}{i:Int}{Q:AV→St→Prop}(hl:LA S (St.mk (tr) dk nw rl tb fid nam loc tmp cfid cnm cel glb) a l)(h0:0≤i)(hi:i≤100000)(hb:l[i.toNat]? =some b)(hsl: ∀o i,subscripted slice false o i=operate [o,i] (getItem o i))(h:Q b (St.mk (tr) dk nw rl tb fid nam loc tmp cfid cnm cel glb)):
  W1 S d r env (R2 S) (RV S) (fun v:Value×Value=>subscriptTail value slice v.1 v.2) (a,.int i) (St.mk (tr) dk nw rl tb fid nam loc tmp cfid cnm cel glb) Q X:=D4t hl h0 (Int.lt_of_le_of_lt hi (by decide)) hb hsl h
end
section
variable {P P':Key→Prop} {z z':Gh} {y:Gy} {Φ Φ':Key→Addr} {s s':Shared} {F:FnI} {as:List AV}
theorem B7k{S:SP}{P z Φ}{h:Heap}{a:Addr}{ns:List Str}{vs:List (Option AV)}(x:C3n S P z Φ h a (.locs ns vs)): ∃o es n,h.get? a=some o∧o.data= .dict es n:=by
 refine A0e x fun mm y9a hm=>?_
 try clear x
 obtain ⟨o,es,ep,e,r1⟩:=y9a
 exact B5k o es ep e r1.1
noncomputable def frs(env:Env)(outer:List Env):List Addr:=(env::outer).filterMap (·.frame)
theorem B4i{env:Env}{outer:List Env}(hf:env.frame=some env.locals){a:Addr}(h:a∈frs env outer):a=env.locals∨ ∃e∈outer,e.frame=some a:=by
 refine A0e (List.mem_filterMap.mp h) fun e he hfe=>?_
 rcases List.mem_cons.mp he with rfl|he
 ·rw [hf]at hfe;exact .inl (Option.some.inj hfe).symm
 ·exact .inr ⟨e,he,hfe⟩
theorem Sim.noted(hs:Sim S env σ P z y Φ s){outer:List Env}(hf:env.frame=some env.locals)(hst:D1d outer y){off:Addr→Prop}(hoff: ∀a,off a→Off (σ.obj S) z y Φ a){h':Heap}
  (k: ∀b o,s.heap.get? b=some o→b∉frs env outer→ ¬off b→h'.get? b=some o) (sl: ∀b o,s.heap.get? b=some o→b∈frs env outer→ ∃x,h'.get? b=some {o with slots:=x})
  (hlv: ∀a,off a→ ¬Pf P a):Sim S env σ P z y Φ {s with heap:=h'}:=by
 have loc:Φ (.loc σ.fid)=env.locals:=hs.loc
 have yst: ∀e∈outer,∀a,e.frame=some a→ ∃o,y a=some (o,true):=fun e he a ha=>by
  refine A0f (hst e he) fun _ y9a=>B4p y9a fun L o es ep h1 h2 _=>?_
  rw [h1]at ha;cases ha;exact⟨o,h2⟩
 have zk: ∀a o,z a=some o→a∉frs env outer:=fun a o e hm=>by
  rcases B4i hf hm with rfl| ⟨e',he,hfe⟩
  ·have:=hs.core.zf _ _ (A1l (σ:=σ));rw [loc]at this;rw [this]at e;exact k1 e
  ·refine A0i (yst e' he a hfe) fun o' ho=>?_
   have:=hs.core.zy _ _ ho;rw [this]at e;exact k1 e
 refine⟨⟨hs.core.gens,hs.core.os,hs.core.base,fun a o e=>k a o (hs.core.zin a o e) (zk a o e) (fun ho=>by have:=(hoff a ho).1;rw [this]at e;exact k1 e),fun a o e=>?_,hs.core.zy,hs.core.al,fun q o e=>?_,hs.core.zf,hs.core.yf,hs.core.inj⟩,hs.ok,hs.eok,hs.pin,hs.fid,hs.loc,fun f hfp=>?_,hs.cel,hs.ll,hs.lc⟩
 ·have no: ¬off a:=fun ho=>by have:=(hoff a ho).2.1;rw [this]at e;exact k1 e
  by_cases hm:a∈frs env outer
  ·rcases B4i hf hm with rfl| ⟨e',he,hfe⟩
   ·have:=hs.core.yf _ _ (A1l (σ:=σ));rw [loc]at this;rw [this]at e;exact k1 e
   ·refine A0i (yst e' he a hfe) fun o' ho=>?_
    replace ho:=(e).symm.trans ho;cases ho
    rcases hs.core.yin a _ e with h1| ⟨_,x,h1⟩
    ·obtain ⟨x,hx⟩:=sl a _ h1 hm;exact .inr ⟨rfl,x,hx⟩
    ·obtain ⟨x',hx⟩:=sl a _ h1 hm;exact .inr ⟨rfl,x',hx⟩
  ·exact (hs.core.yin a o e).keep fun oo e'=>k a oo e' hm no
 ·have no: ¬off (Φ q):=fun ho=>(hoff _ ho).2.2 q o e rfl
  by_cases hm:Φ q∈frs env outer
  ·rcases B4i hf hm with h1| ⟨e',he,hfe⟩
   ·have:q= .loc σ.fid:=hs.core.inj _ _ _ _ e A1l (h1.trans loc.symm)
    subst this
    have eo:o= .locs σ.nam σ.loc:=Option.some.inj (e.symm.trans A1l)
    subst eo
    refine A0e (hs.core.rep _ _ e) fun mm y9a g3=>?_
    obtain ⟨o3,es,ep,g1,g2⟩:=y9a
    refine A0i (sl _ _ g1 hm) fun x hx=>?_
    exact A1f mm ⟨_,es,ep,hx,g2⟩ g3
   ·refine A0i (yst e' he _ hfe) fun o' ho=>?_
    have:=hs.core.yf _ _ e;replace this:=(ho).symm.trans this;exact k2 this
  ·exact (hs.core.rep q o e).mono Ext0.refl fun oo e'=>k _ oo e' hm no
 ·refine A0i (hs.top f hfp) fun o e=>?_
  by_cases hm:f∈frs env outer
  ·obtain ⟨x,hx⟩:=sl _ _ e hm;exact⟨_,hx⟩
  ·by_cases ho:off f
   ·exact absurd hfp (hlv f ho)
   ·exact ⟨o,k f o e hm ho⟩
theorem C7r{A:Around}{outer:List Env}{x:Addr}{K:Unit→Shared→Prop}{E:Value→Shared→Prop}(hs:Sim S env σ P z y Φ s)(hf:env.frame=some env.locals)(hA:A.frames=some (env::outer))(hst:D1d outer y)(hx:Exc S P (σ.obj S) z y Φ s.heap x)
  (h: ∀s',Sim S env σ P z y Φ s'→Exc S P (σ.obj S) z y Φ s'.heap x→K () s'):wpAny (model S.prog S.w) A (leaving env (.ref x)) K E s:=by
 refine B4q hx fun oe vs a0 he hc hd h0 hoff y9a=>?_
 try clear hx
 refine A0f y9a fun hpx hT=>A8c (B7k (hs.core.rep _ _ (A1l (σ:=σ)))) fun ol esl nl gl dl=>?_
 rw [hs.loc]at gl
 have fdat: ∀b∈frs env outer,∃o es n,s.heap.get? b=some o∧o.data= .dict es n:=fun b hb=>by
  rcases B4i hf hb with rfl| ⟨e',he',hfe⟩
  ·exact B5k ol esl nl gl dl
  ·refine A0f (hst e' he') fun _ y9a=>B4p y9a fun L o es ep h1 h2 h3=>?_
   rw [h1]at hfe;cases hfe
   rcases hs.core.yin _ _ h2 with g| ⟨_,sl,g⟩
   ·exact B5k o es ep g h3
   ·exact B5k _ es ep g h3
 have xfr:x∉frs env outer:=fun hm=>by obtain ⟨o,es,n,g,q⟩:=fdat x hm;rw [he]at g;cases g;rw [hd]at q;contradiction
 have ff: ∀(base:Heap),(∀b∈frs env outer,base.get? b=none)→s.heap.FunFrames base (env::outer):=fun base hb=>by
  refine A4x (by rw [hs.eok.kfun];decide) ⟨env.locals,ol,hf,hb _ (List.mem_filterMap.mpr ⟨env,.head _,hf⟩),gl,fun vs q=>by rw [dl]at q;contradiction⟩ ?_
  have: ∀l:List Env,(∀e∈l,e∈outer)→s.heap.FunFrames base l:=by
   intro l
   induction l with
   |nil=>intro _;trivial
   |cons e l ih=>
    intro hl
    refine A0f (hst e (hl e (.head _))) fun h1 y9a=>B4p y9a fun L o es ep h2 h3 h4=>?_
    have hm:L∈frs env outer:=List.mem_filterMap.mpr ⟨e,.tail _ (hl e (.head _)),h2⟩
    refine A8c (fdat L hm) fun o' es' n' g q=>?_
    exact A4x h1 ⟨L,o',h2,hb _ hm,g,fun vs q'=>by rw [q]at q';contradiction⟩ (ih fun e he=>hl e (.tail _ he))
  exact this outer fun e he=>he
 have fin: ∀(offs:List Addr) (hoffs: ∀a∈offs,Off (σ.obj S) z y Φ a) (hxo:x∈offs) h',Heap.LeftW (hideAll s.heap (frs env outer++offs)) (env::outer) x oe.cls a0 s.heap h'→(∀a∈offs,¬Pf P a)→K () {s with heap:=h'}:=by
  rintro offs hoffs hxo h' ⟨k1,k2,k3,k4⟩ hlv
  have keepB: ∀b o,s.heap.get? b=some o→b∉frs env outer→b∉offs→h'.get? b=some o:=fun b o e h1 h2=>k1 b o (hideAll_get _ e (by simp [h1,h2]))
  have hs':Sim S env σ P z y Φ {s with heap:=h'}:=hs.noted hf hst (off:=fun a=>a∈offs) hoffs keepB (fun b o e hm=>by
   refine A8c (fdat b hm) fun o' es n g q=>?_
   rw [e]at g;cases g
   exact k4 b o e fun vs q'=>by rw [q]at q';contradiction) hlv
  refine h _ hs' (C8n k3 fun oe' vs' T oT ts g1 y9a g4 g5 g6 y9b=>?_)
  try clear k3
  refine C3g y9b fun g7 g8 g9 g10=>?_
  obtain ⟨g2,g3⟩:=y9a
  refine D2r oe' vs' a0 g1 (g2.trans hc) g4 g3 hoff (A8b hpx (.inr ⟨T,oT,ts,g5,g7,g8,g9,g10,?_⟩))
  by_cases hTo:T∈offs
  ·exact ⟨hoffs T hTo,hlv T hTo⟩
  ·have hTf:T∉frs env outer:=fun hm=>by
    refine A8c (fdat T hm) fun o' es n g q=>?_
    obtain ⟨sl,hsl⟩:=k4 T o' g fun vs q'=>by rw [q]at q';contradiction
    simp only [g8]at hsl;cases hsl;rw [q]at g9;contradiction
   cases q:s.heap.get? T with
   |none=>exact⟨hs.off q,hs.nopf q⟩
   |some o=>rw [hideAll_get _ q (by simp [hTf,hTo])]at g6;contradiction
 rcases hT with h1| ⟨T,oT,ts,h1,hTx,hTh,hTd,hT3,hTo⟩
 ·refine wpAny_leaving_firstW (base:=hideAll s.heap (frs env outer++ [x])) hA (ff _ fun b hb=>hideAll_none _ (List.mem_append_left _ hb)) hf he (fun b o q=>of_hideAll _ q) (hideAll_none _ (List.mem_append_right _ (.head _))) hd h1 h0 fun h' hL=>?_
  exact fin [x] (fun a ha=>by simp only [List.mem_singleton.mp ha];exact hoff) (.head _) h' hL fun a ha=>by rw [List.mem_singleton.mp ha];exact hpx
 ·have trW:s.heap.TracedW (hideAll s.heap (frs env outer++ [x,T])) x oe.cls a0:=⟨oe,vs,T,oT,ts,he,⟨rfl,h0⟩,hd,h1,hideAll_none _ (List.mem_append_right _ (.tail _ (.head _))),hTx,hTh,hTd,hT3⟩
  refine wpAny_leaving_nextW (base:=hideAll s.heap (frs env outer++ [x,T])) hA (ff _ fun b hb=>hideAll_none _ (List.mem_append_left _ hb)) hf trW (fun b o q=>of_hideAll _ q) (hideAll_none _ (List.mem_append_right _ (.head _))) fun h' hL=>?_
  exact fin [x,T] (fun a ha=>by simp at ha;rcases ha with rfl|rfl;exact hoff;exact hTo.1) (.head _) h' hL fun a ha=>by simp at ha;rcases ha with rfl|rfl;exact hpx;exact hTo.2
theorem D1r{Q:AV→St→Prop}(hF:FnOK S F)(hl:as.length+F.dfl.length=F.ps.length)(h: ∀L,W S d true (F.env L) (RF S) (execs F.body (F.env L)) (F.st σ L (as++F.dfl)) (fun f σ'=>A4r f σ' fun a σ''=>Q a (σ.back σ'')) (fun σ''=>X (σ.back σ''))):
  WC S (d+1) true env F.a as σ Q X:=fun A P z y Φ s vals hA hs hv=>by
 refine A7s hF.at_ fun oc od osl name params y9a=>A7s y9a fun dV kV doc pm an y9b=>A0e y9b fun ct ho hbind=>?_
 obtain ⟨dvals,hdv,hb⟩:=hbind s vals hs.keep (by rw [show vals.length=as.length from A0c.len hv];exact hl)
 have hv':A0c S P z Φ (as++F.dfl) (vals++dvals):=A0c.app hv (hdv P z Φ)
 have ho':=hs.kin _ _ ho
 refine A0f (hA.fr rfl) fun hfl y9a=>A0e y9a fun outer hAf hst=>codeAny_call_function (by have:=hA.dep;show A.depth<1000;exact Z2 this) ho' rfl hF.co hF.ge rfl (codeRec_of hs.kin hF.code) (hb _ _ _ _ ?_)
 refine wpAny_newFunctionEnv_cells (by have:=(hF.eok 0).kfun;exact this) (fun x hx=>?_) fun env' he s₁ x=>?_
 ·have hm:x.1∈F.ps:=(List.of_mem_zip hx).1
  rcases hF.par x.1 hm with h1| ⟨h1,h2⟩
  ·exact .inl h1
  ·refine A0i (List.getElem?_of_mem h2) fun i hi=>?_
   exact .inr ⟨h1,by refine(congrArg _ (hF.cells i x.1 _ hi)).trans ?_;rfl⟩
 subst he
 have nL:s.heap.get? s.heap.objs.size=none:=A0y _
 have hs₁:=D3b hs hF hv' (L:=s.heap.objs.size) rfl x
 refine⟨(hs.ok.lim.keeps hs.keep).keeps x.toInCall.keep,codeAny_func ?_⟩
 refine A8c (B7k (hs.core.rep _ _ (A1l (σ:=σ)))) fun ol esl nl gl dl=>?_
 rw [hs.loc]at gl
 have yL:yc S env σ Φ y s.heap env.locals=some (ol,true):=by
  have:=C1p (S:=S) (env:=env) (σ:=σ) (Φ:=Φ) (y:=y) (k:= .loc σ.fid) rfl A1l (by rw [hs.loc];exact gl)
  rw [hs.loc]at this;rw [this];simp
 have hst':D1d (env::outer) (yc S env σ Φ y s.heap):=fun e he=>by
  rcases List.mem_cons.mp he with rfl|he
  ·exact A8b (by rw [hs.eok.kfun];decide) (C1f e.locals ol esl nl hfl yL dl)
  ·refine A0f (hst e he) fun h1 y9a=>B4p y9a fun L o es ep h2 h3 h4=>?_
   exact A8b h1 (C1f L o es ep h2 (B8s hs.core h3) h4)
 have hfL:(F.env s.heap.objs.size).frame=some (F.env s.heap.objs.size).locals:=rfl
 have hAf':(A.deeper (F.env s.heap.objs.size)).frames=some (F.env s.heap.objs.size::env::outer):=by show A.frames.map _=_;refine(congrArg _ (hAf)).trans ?_;rfl
 have hA':AOK d true (F.env s.heap.objs.size) (yc S env σ Φ y s.heap) (A.deeper (F.env s.heap.objs.size)):=
  ⟨hA.h,by have:=hA.dep;show A.depth+1+d≤900;exact Z3 this,by have:=hA.uni;show A.units+3+20*d≤9000;exact Z4 this,fun _=>⟨hfL,_,hAf',hst'⟩⟩
 refine(h s.heap.objs.size).run hA' hs₁ (fun f s₂ P₂ z₂ Φ₂ σ₂ b x₂ r₂ hs₂ h₂=>?_) fun e s' hx=>?_
 ·refine B5u (C9e hs₂ r₂ h₂) fun v z₃ σ₃ av e1 x₃ hs₃ hv₃ y9a=>A0e y9a fun σ₄ hq e2=>A0f (back hs nL (x₂.trans x₃) hs₃) fun xb hsb=>C5o P₂ z₃ Φ₂ _ av xb ?_ hsb ?_
  ·rw [←e1]at hv₃;cases f <;> exact hv₃
  ·rw [←e2];exact hq
 ·refine D0v hx fun P₂ z₂ Φ₂ σ₂ xx y9a x₂ hs₂ hex hX=>?_
  try clear hx
  obtain rfl:=y9a
  refine C7r hs₂ hfL hAf' hst' hex fun s₃ hs₃ hex₃=>A0f (back hs nL x₂ hs₃) fun xb hsb=>?_
  have offc: ∀a,Off (σ₂.obj S) z₂ (yc S env σ Φ y s.heap) Φ₂ a→Off ((σ.back σ₂).obj S) z₂ y Φ₂ a:=fun a ⟨o1,o2,o3⟩=>by
   obtain ⟨y1,y2⟩:=C9j o2 (fun k o _ q e=>by rw [←e];exact(hs.core.rep k o q).live)
   refine A4x o1 y1 (fun k o e q=>?_)
   cases hk:B0e k with
   |false=>
    have:(σ.back σ₂).obj S k=σ₂.obj S k:=by cases k <;> first|rfl|exact k11 hk rfl
    rw [this]at e;exact o3 k o e q
   |true=>
    have:(σ.back σ₂).obj S k=σ.obj S k:=by cases k <;> first|rfl|exact k4 hk
    rw [this]at e
    rw [xb.f k (hs.core.al k o e)]at q
    exact y2 k o hk e q
  refine B4q hex₃ fun oe vs a0 g1 g2 g3 g4 g5 y9a=>?_
  try clear hex₃
  refine A0f y9a fun g6 g7=>?_
  exact D2q P₂ z₂ Φ₂ (σ.back σ₂) xx rfl xb hsb ⟨oe,vs,a0,g1,g2,g3,g4,offc _ g5,g6,g7.imp id fun⟨T,oT,ts,q1,q2,q3,q4,q5,q6,q7⟩=>⟨T,oT,ts,q1,q2,q3,q4,q5,offc _ q6,q7⟩⟩ hX
end
section
variable {P P':Key→Prop} {z z':Gh} {y:Gy} {Φ Φ':Key→Addr} {s s':Shared}
noncomputable abbrev D3s:List Value:= [.type "Exception",.type "BaseException",.type "object"]
theorem C8i{prog:Program}{w:World}{A:Around}{E:Value→Shared→Prop}{h:Heap}{g:Array GenState}{dr:Drawn}{tk:Nat}{os:OsState}{nm q:Str}{C N x:Addr}{bs:List Value}{sn:List Str}{sub:List Value}{col:Option Bool}{dd:Option Addr}{k0 k1 k2 k3 k5:Option Value}{newId B sa owner:String}{bm:List Value}{ab:Bool}
  {mN:Str→Option Value} {name:Str} {v:Value} {o:Obj} {Q:Unit→Shared→Prop} (SF:StoreFacts B bm sa owner)
  (hC:h.get? C=some (excClassObj nm q C N bs bm true sn sub ab col dd k0 k1 k2 k3 k5 newId)) (hn:h.Ns N mN) (hns:mN "__setattr__"=none) (hna:mN name=none) (hB:typeLookup (.type B) name=pure none)
  (hx:h.get? x=some o) (hc:o.cls= .ref C) (hnc: ∀c,o.data≠ .cls c) (hdn:o.dict=none)
  (hq: ∀h' tk',h'.Inst x C (fun y=>if y=name then some v else none)→(∀o₁,h'.get? x=some o₁→o₁.dict=some h.objs.size∧o₁.data=o.data∧o₁.cls=o.cls)→(∀b o',b≠x→h.get? b=some o'→h'.get? b=some o')→Q () ⟨h',g,dr,tk',os⟩):
  wpAny (model prog w) A (setAttr (.ref x) name v) Q E ⟨h,g,dr,tk,os⟩:=by
 have f3:=SF.slot.bind (.ref x)
 have body: ∀(tk1 tk2:Nat) (R:Result→Shared→Prop),(∀h' tk',h'.Inst x C (fun y=>if y=name then some v else none)→(∀o₁,h'.get? x=some o₁→o₁.dict=some h.objs.size∧o₁.data=o.data∧o₁.cls=o.cls)→(∀b o',b≠x→h.get? b=some o'→h'.get? b=some o')→R (.ok (.ret .none)) ⟨h',g,dr,tk',os⟩)→
   ∀A,codeAny (model prog w) A (.call (.builtin sa) ⟨[.ref x,.str name tk1,v],[]⟩) R ⟨h,g,dr,tk2,os⟩:=by
  intro tk1 tk2 R hR A
  refine codeAny_call_builtin SF.slot.plain SF.entry (wpAny_check_sa SF hC hx hc ?_)
  have hpass:=SF.passes (.ref x)
  unfold Builtin.«object.__setattr__»
  repeat (first|rw [refuse_eq]| (rw [refuseLoop_ref,hpass])| (refine wpAny_loadPart_at hx ?_;rw [hc])|refine wpAny_mroOf_exc hC ?_| (refine wpAny_typeLookup_exc hC hn SF.mro hB ?_;rw [hna])|wp_step)
  rw [hdn,if_neg (by simp [typeHasDict])]
  split
  ·rename_i hcd;exact k13 hcd rfl
  split
  ·rename_i c hcd;exact absurd hcd (hnc c)
  have hx₁:(h.push {cls:= .type "dict",data:= .dict #[]}).get? x=some o:=Heap.get?_push_of_some _ hx
  have hxs:x≠h.objs.size:=Nat.ne_of_lt (Heap.lt_size hx)
  refine wpAny_bind (wpAny_alloc' ?_)
  refine wpAny_bind (wpAny_update' hx₁ ?_)
  refine wpAny_pure ?_
  have hgd:((h.push {cls:= .type "dict",data:= .dict #[]}).update x fun o=>{cls:=o.cls,dict:=some h.objs.size,data:=o.data,slots:=o.slots}).get? h.objs.size=some {cls:= .type "dict",data:= .dict #[]}:=
   (Heap.get?_update_ne _ _ _ _ hxs.symm).trans (Heap.get?_push_at rfl rfl)
  have hnd:((h.push {cls:= .type "dict",data:= .dict #[]}).update x fun o=>{cls:=o.cls,dict:=some h.objs.size,data:=o.data,slots:=o.slots}).Ns h.objs.size (fun _=>none):=
   ⟨_,#[],_,hgd,rfl,fun e he=>absurd he (by simp),fun _=>rfl⟩
  show wpAny _ _ (storeInDict h.objs.size (.str name _) name v) _ _ _
  unfold storeInDict newKeyGuard
  refine wpAny_bind (wpAny_pure (wpAny_bind (wpAny_nsSet1 (Heap.Ns1.of_empty hnd) fun h' hn' hs=>?_)))
  refine A3m (hn'.count (Within.cons name v Within.nil)) fun oD esD epD hoD hdD hcD=>wpAny_bind (wpAny_lookBehind hoD (by refine(congrArg _ (hdD)).trans ?_;exact pastItsLine_dict (Nat.le_trans hcD (by simp only [List.length_cons,List.length_nil,sizeLine_eq];exact Nat.le_of_ble_eq_true rfl))) ?_)
  wp_walk
  have hx':h'.get? x=some {cls:=o.cls,dict:=some h.objs.size,data:=o.data,slots:=o.slots}:=by
   refine(hs.2 x hxs).trans (Heap.get?_update_self _ hx₁ ?_)
   have hfr:=(Heap.get?_some_iff.mp hx).2
   obtain ⟨oc,od,odt,osl⟩:=o
   cases odt <;> first|rfl|exact hfr
  have hkp: ∀b o',b≠x→h.get? b=some o'→h'.get? b=some o':=fun b ob hbx hb=>by
   refine(hs.2 b (Nat.ne_of_lt (Heap.lt_size hb))).trans ?_
   exact(Heap.get?_update_other _ _ (Ne.symm hbx)).trans (Heap.get?_push_of_some _ hb)
  exact hR h' _ ⟨_,hx',hc,hnc,.inr ⟨h.objs.size,rfl,hxs.symm,hn'⟩⟩ (fun o₁ e=>by rw [hx']at e;cases e;exact⟨rfl,rfl,rfl⟩) hkp
 unfold setAttr callSpecial? specialOf
 repeat (any_goals (first|assumption| (refine wpAny_loadPart_at hx ?_;rw [hc])| (refine wpAny_typeLookup_exc hC hn SF.mro SF.slot.lookup ?_;rw [hns])|wp_step))
 refine body _ _ _ (fun h' tk' I' hd hk=>?_) _
 repeat (any_goals (first|assumption|wp_step))
 exact hq h' tk' I' hd hk
structure EX (S:SP):Prop where
 cls: ∃(nm q:Str) (N:Addr) (bs:List Value) (sn:List Str) (sub:List Value) (col:Option Bool) (dd:Option Addr) (k0 k1 k2 k3 k5:Option Value) (mN:Str→Option Value),
  S.base.get? S.CL=some (excClassObj nm q S.CL N bs D3s true sn sub false col dd k0 k1 k2 k3 k5 "Exception.__new__")∧S.base.Ns N mN∧mN "__init__"=some (.ref 49)∧mN "__setattr__"=none∧mN "symbol"=none∧mN "data"=none
 fn: ∃o,S.base.get? 49=some o∧o.cls= .type "function"
theorem B1s{h:Heap}{a:Addr}{m:Str→Option Value}(x:h.Ns a m): ∃o,h.get? a=some o:=let ⟨o,_,_,e,_⟩:=x;⟨o,e⟩
theorem B0b{h h':Heap}{a:Addr}{m:Str→Option Value}(x:h.Ns a m)(k: ∀o,h.get? a=some o→h'.get? a=some o):h'.Ns a m:=let ⟨o,es,ep,e,r⟩:=x;⟨o,es,ep,k _ e,r⟩
theorem C8j(G:PG S)(EXs:EX S){A:Around}{e:Addr}{fs:Array Value}{v1 v2:Value}(hkb: ∀a o,S.base.get? a=some o→s.heap.get? a=some o)(hd:A.depth<1000)(he:s.heap.get? e=some {cls:= .ref S.CL,data:= .fields fs}):
  codeAny (model S.prog S.w) A (.call (.ref 49) ⟨[.ref e,v1,v2],[]⟩) (fun rr s'=> ∃h' tk',rr= .ok (.ret .none)∧s'={s with heap:=h',toks:=tk'}∧(∀b o,b≠e→s.heap.get? b=some o→h'.get? b=some o)∧ ∃o,h'.get? e=some o∧o.cls= .ref S.CL∧o.data= .fields fs) s:=by
 have hF:=G.f_LispSignal_init
 refine A7s EXs.cls fun nm q N bs sn y9a=>A7s y9a fun sub col dd k0 k1 y9b=>C1j y9b fun k2 k3 k5 mN c1 c2 c3 c4 c5 c6=>A7s hF.at_ fun oc od osl name params y9a=>A7s y9a fun dV kV doc pm an y9b=>A0e y9b fun ct ho hbind=>A0e (hbind s [.ref e,v1,v2] hkb rfl) fun dvals hdv hb=>?_
 have e0:dvals= []:=by have:=hdv (fun _=>False) (fun _=>none) (fun _=>0);exact this
 subst e0
 have ho':=hkb _ _ (G.ok.kin _ _ ho)
 refine codeAny_call_function hd ho' rfl hF.co hF.ge rfl (codeRec_of (fun a o e=>hkb _ _ (G.ok.kin a o e)) hF.code) (hb _ _ _ _ ?_)
 refine wpAny_newFunctionEnv_cells (by have:=(hF.eok 0).kfun;exact this) (fun x hx=>?_) fun env' henv s₁ x=>?_
 ·have hm:x.1∈A0n.ps:=(List.of_mem_zip hx).1
  rcases hF.par x.1 hm with h1| ⟨h1,h2⟩
  ·exact .inl h1
  ·contradiction
 subst henv
 refine⟨(G.ok.lim.keeps hkb).keeps x.toInCall.keep,codeAny_func ?_⟩
 have hE:=hF.eok s.heap.objs.size
 have hns:=x.toInCall.ns
 have kp:=x.toInCall.keep
 refine B5w x.toInCall.same fun h1 tk1 same=>?_
 subst same
 have hL:s.heap.get? s.heap.objs.size=none:=A0y _
 have hLe:s.heap.objs.size≠e:=fun q=>by rw [q,he]at hL;contradiction
 have hsv: ∀x,(A0n.env s.heap.objs.size).kindOf x=some .local→bindL (A0n.env s.heap.objs.size).kindOf (A0n.ps.zip [.ref e,v1,v2]) (fun _=>none) x=((A0n.ps.zip [.ref e,v1,v2]).lookup x).or none:=fun x hx=>C0g hx hF.nd _ _
 have lv: ∀x v,(A0n.env s.heap.objs.size).kindOf x=some .local→(A0n.ps.zip [.ref e,v1,v2]).lookup x=some v→bindL (A0n.env s.heap.objs.size).kindOf (A0n.ps.zip [.ref e,v1,v2]) (fun _=>none) x=some v:=fun x v h1 h2=>by rw [hsv x h1,h2];rfl
 have kS:=hE.kloc "self" (.head _);have kY:=hE.kloc "symbol" (by decide);have kD:=hE.kloc "data" (by decide)
 have mS:=lv "self" (.ref e) kS.1 (by kernel_rfl)
 have mY:=lv "symbol" v1 kY.1 (by kernel_rfl)
 have mD:=lv "data" v2 kD.1 (by kernel_rfl)
 have hC:h1.get? S.CL=some (excClassObj nm q S.CL N bs D3s true sn sub false col dd k0 k1 k2 k3 k5 "Exception.__new__"):=kp _ _ (hkb _ _ c1)
 have hN:h1.Ns N mN:=B0b (B0b c2 fun o q=>hkb _ _ q) fun o q=>kp _ _ q
 have he1:=kp _ _ he
 have heC:e≠S.CL:=fun q=>by rw [q]at he1;rw [show h1.get? S.CL=_ from hC]at he1;cases he1
 have heN:e≠N:=fun q=>by
  refine A3m hN fun o es ep g g2 _=>?_
  try clear hN
  rw [q]at he1;rw [show h1.get? N=_ from g]at he1;cases he1;contradiction
 show wpAny _ _ (execs A0n.body (A0n.env s.heap.objs.size)) _ _ _
 refine wpAny_execs_cons (plainObj_wpAny_Assign_Attribute (wpAny_Name (wpAny_loadName_local hE.kfun kY.1 hns mY ?_) kY.2) rfl)
 refine wpAny_Name (wpAny_loadName_local hE.kfun kS.1 hns mS ?_) kS.2
 refine C8i PySem.F.store_Exception hC hN c4 c5 (by rw [typeLookup_type,builtinLookup_eq_fast];kernel_rfl) he1 rfl (fun c q=>by contradiction) rfl fun h2 tk2 I2 d2 kp2=>?_
 have hns2:h2.Ns s.heap.objs.size _:=B0b hns fun o g=>kp2 _ _ hLe g
 refine wpAny_execs_cons (plainObj_wpAny_Assign_Attribute (wpAny_Name (wpAny_loadName_local hE.kfun kD.1 hns2 mD ?_) kD.2) rfl)
 refine wpAny_Name (wpAny_loadName_local hE.kfun kS.1 hns2 mS ?_) kS.2
 refine A0e (id I2) fun o2 g2 _=>A1a (d2 o2 g2) fun d21 d22 d23=>store_attr PySem.F.store_Exception (kp2 _ _ (Ne.symm heC) hC) (B0b hN fun o g=>kp2 _ _ (Ne.symm heN) g) c4 c6 (by rw [typeLookup_type,builtinLookup_eq_fast];kernel_rfl) heC I2 (fun h3 tk3 I3 kp3 sm3=>?_) (Within.cons _ _ Within.nil) (by simp only [List.length_cons,List.length_nil,sizeLine_eq];exact Nat.le_of_ble_eq_true rfl)
 refine wpAny_execs_nil (A6d (sm3 o2 g2) fun o3 g3 g4 g5 _=>B9r h3 tk3 rfl rfl (fun b o hbe hb=>?_) (A8n o3 g3 (g4.trans d23) (g5.trans d22)))
 refine kp3 b o hbe (fun o₀ dx q1 q2=>?_) (kp2 b o hbe (kp b o hb))
 rw [g2]at q1;cases q1
 rw [d21]at q2;cases q2
 have h6:b<h1.objs.size:=Heap.lt_size (kp b o hb)
 exact Nat.ne_of_lt h6
end
section
variable {P P':Key→Prop} {z z':Gh} {y:Gy} {Φ Φ':Key→Addr} {s s':Shared}
theorem C2q{M:Model}{A:Around}{E:Value→Shared→Prop}{x:Sem Value}{Q:Flow→Shared→Prop}{nm q:Str}{C N:Addr}{bs bm:List Value}{hdct ab:Bool}{sn:List Str}{sub:List Value}{col:Option Bool}{dd:Option Addr}{k0 k1 k2 k3 k5:Option Value}{newId:String}
  (hbase:bm.contains (.type "BaseException")=true) (hh:A.handled=none)
  (h:wpAny M A x (fun v s₁=> ∃e t dct sl,v= .ref e∧s₁.heap.get? C=some (excClassObj nm q C N bs bm hdct sn sub ab col dd k0 k1 k2 k3 k5 newId)∧s₁.heap.get? e=some ⟨.ref C,dct,.fields #[.ref t,.none,.none,.none,.bool false,.none],sl⟩∧E (.ref e) s₁) E s):
  wpAny M A (raiseStmt env (some x) none) Q E s:=by
 have hcB:(Value.ref C::bm).contains (.type "BaseException")=true:=by simp only [List.contains_cons,hbase,Bool.or_true]
 unfold raiseStmt
 refine wpAny_bind (wpAny_mono h (fun v s₁ h₁=>?_) fun _ _ x=>x)
 refine D3c h₁ fun e t dct sl y9a hC he hE=>?_
 try clear h₁
 obtain rfl:=y9a
 obtain ⟨hp,g,d,tk,os⟩:=s₁
 repeat (first|refine wpAny_loadPart_at he ?_|refine wpAny_loadPart_at hC ?_| (refine wpAny_isSubtype_exc hC ?_;rw [hcB])|wp_step)
 exact wpAny_raiseNew_none hh hE
theorem C4a(G:PG S)(EXs:EX S){np cpos pos:Pos}{e:Expr}{rest:List Expr}{Q:AF→St→Prop}(hx:Str.ofString "LispSignal"∈σ.glb)(hk:keepIn S.K (.ref S.CL)=true)(he:starEach (e::rest) env=(false,eval e env)::starEach rest env)(hplain:(backTo cpos (starEach rest env)).any (·.1)=false)
  (h:W S d r env (RL S) (spliced (backTo cpos (starEach (e::rest) env))) σ (fun as σ₁=>as.length=2∧X σ₁) X):W S (d+2) r env (RF S) (exec (.Raise (some (.Call (.Name (Str.ofString "LispSignal") np) (e::rest) [] cpos)) none pos) env) σ Q X:=fun A P z y Φ s hA hs=>by
 refine A7s EXs.cls fun nm q N bs sn y9a=>A7s y9a fun sub col dd k0 k1 y9b=>C1j y9b fun k2 k3 k5 mN c1 c2 c3 c4 c5 c6=>A0e EXs.fn fun oI f1 f2=>?_
 simp only [arm_exec_Raise]
 refine wpAny_bind (wpAny_standAt ?_)
 show wpAny _ _ (raiseStmt env (some (do let v ←eval (.Call (.Name (Str.ofString "LispSignal") np) (e::rest) [] cpos) env;standAt pos;pure v)) none) _ _ _
 refine C2q (C:=S.CL) (bm:=D3s) (nm:=nm) (q:=q) (N:=N) (bs:=bs) (hdct:=true) (ab:=false) (sn:=sn) (sub:=sub) (col:=col) (dd:=dd) (k0:=k0) (k1:=k1) (k2:=k2) (k3:=k3) (k5:=k5) (newId:= "Exception.__new__") (by rfl) hA.h (wpAny_bind ?_)
 refine wpAny_Call_Name_kw (C1g hs hx G.k_LispSignal (callWith_K (h₀:=s.heap) hs.kin hk ((h.run (hA.le (Nat.le_add_right _ _)) hs (fun vs s₁ P₁ z₁ Φ₁ σ₁ as x₁ r₁ hs₁ h₁=>⟨hs₁.kin,?_⟩) fun e s' hx=>hx)) he hplain))
 refine A0f h₁ fun hl hX=>?_
 try clear h₁
 have hvl:vs.length=2:=(A0c.len r₁).trans hl
 refine B5w (B5d hvl) fun v1 v2 h9=>?_
 subst h9
 obtain ⟨hh,g,dr,tk,os⟩:=s₁
 have kb:=hs₁.keep
 show wpAny _ _ (call (.ref S.CL) [v1,v2]) _ _ _
 refine wpAny_call_exc_init PySem.F.excBase_Exception (kb _ _ c1) (B0b c2 fun o g=>kb _ _ g) c3 (kb _ _ f1) f2 (fun h' e' hm=>?_) (by simp only [List.length_cons,List.length_cons,List.length_nil,sizeLine_eq];exact Nat.le_of_ble_eq_true rfl)
 refine A2u hm.there fun tt t1 t2 t3=>?_
 have hA2:AOK (d+1) r env y (A.under (.builtin "type.__call__" ⟨.ref S.CL:: [v1,v2],[]⟩)):=hA.under_tc
 refine wpAny_call (codeAny_mono (C8j (s:=⟨h',g,dr,tk,os⟩) G EXs (fun a o q=>hm.keeps _ _ (kb a o q)) (by have:=hA2.dep;exact Z2 this) t1) fun rr s' hr=>?_)
 refine B5v hr fun h'' tk' y9a y9b kp y9c=>?_
 try clear hr
 refine A2u y9c fun o q1 q2 q3=>?_
 obtain rfl:=y9a
 obtain rfl:=y9b
 refine⟨rfl,wpAny_bind (wpAny_standAt (wpAny_pure ?_))⟩
 have keepAll: ∀b o,hh.get? b=some o→h''.get? b=some o:=fun b o q=>kp b o (fun q'=>by rw [q',hm.new]at q;exact k13 q rfl) (hm.keeps b o q)
 have hs₂:=hs₁.grow h'' tk' dr keepAll
 obtain ⟨oc,od,odt,osl⟩:=o
 obtain rfl:oc= .ref S.CL:=q2
 obtain rfl:odt= .fields _:=q3
 refine D4n e' tt od osl rfl (keepAll _ _ (kb _ _ c1)) q1 (D2q P₁ z₁ Φ₁ σ₁ e' rfl x₁ hs₂ ⟨_,_,.ref tt,q1,rfl,rfl,rfl,?_,?_,.inl rfl⟩ hX)
 ·exact hs₁.off hm.new
 ·exact hs₁.nopf hm.new
theorem D3z(G:PG S)(EXs:EX S){body:List Stmt}{np hp pp pos:Pos}{Q:AF→St→Prop}(h:W S d true env (RF S) (execs body env) σ (fun f σ₁=>B8q f σ₁ (fun σ₂=>Q .next σ₂) Q) (fun σ₁=>Str.ofString "LispSignal"∈σ₁.glb∧Q .next σ₁)):
  W S d true env (RF S) (exec (.Try body [.ExceptHandler (some (.Name (Str.ofString "LispSignal") np)) none [.Pass pp] hp] [] [] pos) env) σ Q X:=fun A P z y Φ s hA hs=>by
 refine A0f (hA.fr rfl) fun hf y9a=>A0e y9a fun outer hAf hst=>wpAny_Try_except (wpAny_mono (h A P z y Φ s hA hs) (fun f s₁ h₁=>?_) fun e s₁ h₁=>?_)
 ·refine D0w h₁ fun P₁ z₁ Φ₁ σ₁ b x₁ r₁ hs₁ hq=>?_
  try clear h₁
  cases b with
  |next=>
   have e:f= .next:=r₁
   subst e
   exact wpAny_execs_nil (Res.intro (b:= .next) x₁ A1y hs₁ (show Q .next σ₁ from hq))
  |ret a=>
   obtain ⟨v,rfl,hv⟩:=(r₁: ∃v,f= .ret v∧A1i S P₁ z₁ Φ₁ a v)
   exact Res.intro (b:= .ret a) x₁ (B3r hv) hs₁ (show Q (.ret a) σ₁ from hq)
 ·refine C8n h₁ fun P₁ z₁ Φ₁ σ₁ x y9a x₁ hs₁ y9b hgl hq=>?_
  try clear h₁
  obtain rfl:=y9a
  obtain ⟨oe,vs,a0,he,hc,hd,h0,hoff,hpx,hT⟩:=y9b
  refine A7s EXs.cls fun nm q N bs sn y9a=>A7s y9a fun sub col dd k0 k1 y9b=>C1j y9b fun k2 k3 k5 mN c1 c2 c3 c4 c5 c6=>A8c (B7k (hs₁.core.rep _ _ (A1l (σ:=σ₁)))) fun ol esl nl gl dl=>?_
  rw [hs₁.loc]at gl
  have fdat: ∀b∈frs env outer,∃o es n,s₁.heap.get? b=some o∧o.data= .dict es n:=fun b hb=>by
   rcases B4i hf hb with rfl| ⟨e',he',hfe⟩
   ·exact B5k ol esl nl gl dl
   ·refine A0f (hst e' he') fun _ y9a=>B4p y9a fun L o es ep h1 h2 h3=>?_
    rw [h1]at hfe;cases hfe
    rcases hs₁.core.yin _ _ h2 with g| ⟨_,sl,g⟩
    ·exact B5k o es ep g h3
    ·exact B5k _ es ep g h3
  have ff: ∀(base:Heap),(∀b∈frs env outer,base.get? b=none)→s₁.heap.FunFrames base (env::outer):=fun base hb=>by
   refine A4x (by rw [hs₁.eok.kfun];decide) ⟨env.locals,ol,hf,hb _ (List.mem_filterMap.mpr ⟨env,.head _,hf⟩),gl,fun vs q=>by rw [dl]at q;contradiction⟩ ?_
   have: ∀l:List Env,(∀e∈l,e∈outer)→s₁.heap.FunFrames base l:=by
    intro l
    induction l with
    |nil=>intro _;trivial
    |cons e l ih=>
     intro hl
     refine A0f (hst e (hl e (.head _))) fun h1 y9a=>B4p y9a fun L o es ep h2 h3 h4=>?_
     have hm:L∈frs env outer:=List.mem_filterMap.mpr ⟨e,.tail _ (hl e (.head _)),h2⟩
     refine A8c (fdat L hm) fun o' es' n' g q=>?_
     exact A4x h1 ⟨L,o',h2,hb _ hm,g,fun vs q'=>by rw [q]at q';contradiction⟩ (ih fun e he=>hl e (.tail _ he))
   exact this outer fun e he=>he
  have tail: ∀(offs:List Addr) (hoffs: ∀a∈offs,Off (σ₁.obj S) z₁ y Φ₁ a) (hlv: ∀a∈offs,¬Pf P₁ a) h',Heap.HeldW (hideAll s₁.heap (frs env outer++offs)) (env::outer) x oe.cls a0 env.locals h'→s₁.heap.UpToSlots h'→
    wpAny (model S.prog S.w) A (setFlight (.ref x) none) (fun _ s₃=>wpAny (model S.prog S.w) A (handleBy (.ref x) env [.ExceptHandler (some (.Name (Str.ofString "LispSignal") np)) none [.Pass pp] hp]) (Res S env (RF S) P z y Φ Q) (A9p S env P z y Φ X) s₃) (A9p S env P z y Φ X) {s₁ with heap:=h'}:=by
   intro offs hoffs hlv h' hheld hup
   have sim: ∀h'',(hideAll s₁.heap (frs env outer++offs)).StaysIn h''→s₁.heap.UpToSlots h''→Sim S env σ₁ P₁ z₁ y Φ₁ {s₁ with heap:=h''}:=fun h'' k1 k4=>
    hs₁.noted hf hst (off:=fun a=>a∈offs) hoffs (fun b o e h1 h2=>k1 b o (hideAll_get _ e (by simp [h1,h2]))) (fun b o e hm=>by
     refine A8c (fdat b hm) fun o' es n g q=>?_
     rw [e]at g;cases g
     exact k4 b o e fun vs q'=>by rw [q]at q';contradiction) hlv
   refine wpAny_landsW hheld fun h5 hfl5 hup5=>?_
   have up5:=hup.trans hup5
   have hs5:=sim h5 hfl5.1 up5
   refine wpAny_handleBy_cons (codeAny_handlers_test (C1g hs5 hgl G.k_LispSignal ?_)) (by intro q;contradiction)
   refine A0e hfl5.there fun o5 e5 q5=>?_
   simp only [hc]at q5
   refine wpAny_excMatches_sub_self (hs5.keep _ _ c1) e5 q5 (by rfl) (codeAny_handlers_suite ?_)
   refine lands_againW hfl5 fun h6 hfl6 hup6=>?_
   have hs6:=sim h6 hfl6.1 (up5.trans hup6)
   refine wpAny_execs_cons (wpAny_Pass ?_)
   exact wpAny_execs_nil (Res.intro (b:= .next) x₁ A1y hs6 (show Q .next σ₁ from hq))
  rcases hT with h1| ⟨T,oT,ts,h1,hTx,hTh,hTd,hT3,hTo⟩
  ·unfold noteFrame
   simp only [hf]
   refine wpAny_bind (wpAny_field he hd h1 ?_)
   simp only [if_neg (show ¬((Value.none != Value.none)=true) from by decide)]
   refine wpAny_entryW (base:=hideAll s₁.heap (frs env outer++ [x])) hAf (ff _ fun b hb=>hideAll_none _ (List.mem_append_left _ hb)) hf he (fun b o q=>of_hideAll _ q) (hideAll_none _ (List.mem_append_right _ (.head _))) hd (Array.getElem?_eq_some_iff.mp h1).1 h0 fun h' hN=>?_
   refine C3g hN fun k1 k2 k3 k4=>?_
   try clear hN
   exact tail [x] (fun a ha=>by simp only [List.mem_singleton.mp ha];exact hoff) (fun a ha=>by rw [List.mem_singleton.mp ha];exact hpx) h' ⟨k1,hideAll_none _ (List.mem_append_right _ (.head _)),k2,k3⟩ k4
  ·have trW:s₁.heap.TracedW (hideAll s₁.heap (frs env outer++ [x,T])) x oe.cls a0:=⟨oe,vs,T,oT,ts,he,⟨rfl,h0⟩,hd,h1,hideAll_none _ (List.mem_append_right _ (.tail _ (.head _))),hTx,hTh,hTd,hT3⟩
   refine wpAny_looks_onW hAf hf (base:=hideAll s₁.heap (frs env outer++ [x,T])) ⟨fun b o q=>of_hideAll _ q,hideAll_none _ (List.mem_append_right _ (.head _)),ff _ fun b hb=>hideAll_none _ (List.mem_append_left _ hb),trW⟩ fun h' hh hup=>?_
   exact tail [x,T] (fun a ha=>by simp at ha;rcases ha with rfl|rfl;exact hoff;exact hTo.1) (fun a ha=>by simp at ha;rcases ha with rfl|rfl;exact hpx;exact hTo.2) h' hh hup
end
section
variable {P P':Key→Prop} {z z':Gh} {y:Gy} {Φ Φ':Key→Addr} {s s':Shared}
noncomputable def B1j(M:Model)(A:Around)(E:Value→Shared→Prop)(use:Option (Value→Sem Unit))(Q:Value→Shared→Prop)(acc:Value)(C:Addr)(rr:Result)(s':Shared):Prop:=
 match rr,use with
 | .ok _,none=> ∃m,s'.heap.Ns C m∧ ∀h' m',h'.Ns C m'→Heap.SameBut C s'.heap h'→Q acc {s' with heap:=h'}
 | .ok _,some u=>wpAny M A (u acc) (fun _ s''=> ∃m,s''.heap.Ns C m∧ ∀h' m',h'.Ns C m'→Heap.SameBut C s''.heap h'→Q .none {s'' with heap:=h'}) E s'
 | .error _,_=>False
theorem B3f{M:Model}{A:Around}{E:Value→Shared→Prop}{e:Expr}{scope:Scope}{pos:Pos}{newAcc first:Sem Value}{g:Comprehension}{gs:List Comprehension}{cl:List (Str×Addr)}{use:Option (Value→Sem Unit)}{Q:Value→Shared→Prop}
  (hcl:clausesOf e=g::gs) (hfs: ∀x,foldedSetIterable g.iter env x=pure x) (hclos:closureFor scope env=pure cl) (hkind:scope.kind= .function) (hnames: ∀x∈scope.names,x.2= .local→scope.names.lookup x.1=some .local)
  (h:wpAny M A first (fun x s₁=>wpAny M A (pyIter x) (fun it s₂=>wpAny M A newAcc (fun acc s₃=>wpAny M A (newFunctionEnv scope env.globals cl [] env.qual none .none (some env)) (fun cenv s₄=>
   codeAny M A (.compStart e 0 it acc {cenv with scope:=relabel scope env}) (B1j M A E use Q acc cenv.locals) s₄) E s₃) E s₂) E s₁) E s):
  wpAny M A (comprehension e scope env pos newAcc false first use) Q E s:=by
 unfold comprehension
 rw [hclos,hcl]
 refine wpAny_bind (wpAny_mono h (fun x s₁ h₁=>wpAny_bind (wpAny_standAt (wpAny_bind (wpAny_of_eq (hfs x) (wpAny_bind (wpAny_holding (wpAny_mono h₁ (fun it s₂ h₂=>
  wpAny_standIf (wpAny_bind (wpAny_mono h₂ (fun acc s₃ h₃=>wpAny_bind (wpAny_pure (wpAny_bind (wpAny_mono h₃ (fun cenv s₄ h₄=>?_) fun _ _ h'=>h')))) fun _ _ h'=>h'))) fun _ _ h'=>h'))))))) fun _ _ h'=>h')
 dsimp only
 have loc: ∀l:List (Str×NameKind),(∀x∈l,x∈scope.names)→ ∀x∈l,x.2= .local→Env.kindOf {cenv with scope:=relabel scope env} x.1=some .local:=fun l hl x hx he=>lookup_relabel_local (hnames x (hl x hx) he)
 have sub: ∀x∈(scope.names.filter fun x=>(x.2 == .local || x.2 == .cell) && x.1 != (".0":Str)).reverse,x∈scope.names:=fun x hx=>(List.mem_filter.mp (List.mem_reverse.mp hx)).1
 refine wpAny_holding (wpAny_bind (wpAny_attempt (wpAny_holding (wpAny_run (codeAny_mono h₄ fun rr s' hr=>?_)))))
 cases rr with
 |error x=>cases use <;> exact hr.elim
 |ok f=>
  cases use with
  |none=>
   refine A0e hr fun m hn hr=>?_
   exact wpAny_bind (wpAny_holding (wpAny_comp_letGo (cenv:={cenv with scope:=relabel scope env}) hkind _ s' m (loc _ sub) hn fun h' m' hn' hs'=>wpAny_pure (hr h' m' hn' hs')))
  |some u=>
   refine wpAny_bind (wpAny_rule (wpAny_bind (wpAny_holding (wpAny_mono hr (fun _ s'' hr'=>?_) fun _ _ h'=>h'))))
   refine A0e hr' fun m hn hr'=>wpAny_bind (wpAny_comp_letGo (cenv:={cenv with scope:=relabel scope env}) hkind _ s'' m (loc _ fun x hx=>sub x ?_) hn fun h' m' hn' hs'=>wpAny_pure (hr' h' m' hn' hs'))
   rcases List.mem_append.mp hx with h1|h1
   ·exact List.mem_of_mem_drop h1
   ·exact List.mem_of_mem_take h1
structure CompOK (env:Env) (scope:Scope) (cl:List (Str×Addr)) (x:Str) (cnm' glb':List Str):Prop where
 clos:closureFor scope env=pure cl
 ncell: ∀y∈scope.names,y.2≠ .cell
 kind:scope.kind= .function
 names: ∀y∈scope.names,y.2= .local→scope.names.lookup y.1=some .local
 hx:scope.names.lookup x=some .local
 eok: ∀C,EOK (compEnvC scope cl C env) [x] cnm' glb'
 sub: ∀y∈cnm',cl.lookup y=env.cells.lookup y
noncomputable def St.comp(σ:St)(C:Nat)(x:Str)(ov:Option AV)(k:Nat)(g:List Str):St:={σ with fid:=C,nam:= [x],loc:= [ov],tmp:= [],cnm:=σ.cnm.take k,cel:=σ.cel.take k,glb:=g}
theorem C5z{C k:Nat}{x:Str}{ov:Option AV}{g:List Str}{q:Key}(h:B0e q=false):(σ.comp C x ov k g).obj S q=σ.obj S q:=by cases q <;> first|rfl|exact k11 h rfl
theorem A3x{C k:Nat}{x:Str}{ov:Option AV}{g:List Str}{q:Key}{o:CO}(h:(σ.comp C x ov k g).obj S q=some o):(σ.obj S q=some o∧ ∀f,q≠ .loc f)∨(q= .loc C∧o= .locs [x] [ov]):=by
 cases hq:B0e q with
 |false=>rw [C5z hq]at h;exact .inl ⟨h,fun f e=>by rw [e]at hq;exact k11 hq rfl⟩
 |true=>
  cases q with
  |loc f=>obtain ⟨e1,e2⟩:=A3c.mp h;exact .inr ⟨by refine(congrArg _ (e1)).trans ?_;rfl,e2⟩
  |tmp f i=>obtain ⟨_,e2⟩:=A1t.mp h;exact k1 e2
  |cel f i=>
   refine A0f (A2e.mp h) fun e1 y9a=>A0e y9a fun c e2 e3=>?_
   have e2:(σ.cel.take k)[i]? =some c:=e2
   replace e2:=(List.getElem?_take).symm.trans e2
   split at e2
   ·exact .inl ⟨A2e.mpr ⟨e1,c,e2,e3⟩,fun f e=>by contradiction⟩
   ·exact k1 e2
  |_=>exact k4 hq
open Classical in
noncomputable def yd(S:SP)(env:Env)(σ τ:St)(Φ:Key→Addr)(y:Gy)(h:Heap):Gy:=fun b=>
 if ∃k o,σ.obj S k=some o∧τ.obj S k=none∧Φ k=b then(h.get? b).map (fun o=>(o,decide (b=env.locals)))else y b
theorem C3v{τ:St}{h:Heap}{b:Addr}{o:Obj×Bool}(e:yd S env σ τ Φ y h b=some o):(h.get? b=some o.1∧ ∃k o,σ.obj S k=some o∧τ.obj S k=none∧Φ k=b)∨y b=some o:=by
 unfold yd at e
 split at e
 ·rename_i q
  refine A0e (Option.map_eq_some_iff.mp e) fun oo e1 e2=>?_
  subst e2;exact .inl ⟨e1,q⟩
 ·exact .inr e
theorem C6j{τ:St}{h:Heap}{k:Key}{o:CO}{oo:Obj}(q2:σ.obj S k=some o)(q1:τ.obj S k=none)(q3:h.get? (Φ k)=some oo):yd S env σ τ Φ y h (Φ k)=some (oo,decide (Φ k=env.locals)):=by
 unfold yd;rw [if_pos ⟨k,o,q2,q1,rfl⟩,q3];rfl
theorem C3u{τ:St}{h:Heap}{b:Addr}{o:Obj×Bool}(c:Core S (σ.obj S) P z y Φ s)(e:y b=some o):yd S env σ τ Φ y h b=some o:=by
 unfold yd
 rw [if_neg]
 ·exact e
 ·rintro ⟨k,o',q2,_,q3⟩
  have:=c.yf k o' q2;rw [q3,e]at this;exact k2 this
theorem B6n{scope:Scope}{cl:List (Str×Addr)}{x:Str}{k:Nat}{g:List Str}{C:Addr}(hs:Sim S env σ P z y Φ s)(O:CompOK env scope cl x (σ.cnm.take k) g)(hC:s.heap.get? C=none){m:Str→Option Value}{h₁:Heap}{tk:Nat}(kp: ∀a o,s.heap.get? a=some o→h₁.get? a=some o)(hn:h₁.Ns C m):
  Sim S (compEnvC scope cl C env) (σ.comp C x none k g) (fun j=>P j∨j= .loc C) z (yd S env σ (σ.comp C x none k g) Φ y s.heap) (fun j=>if j= .loc C then C else Φ j) {s with heap:=h₁,toks:=tk}∧
  Ext0 P z Φ (fun j=>P j∨j= .loc C) z (fun j=>if j= .loc C then C else Φ j)∧Sim S env σ P z y Φ {s with heap:=h₁,toks:=tk}:=by
 refine A1a (hs.dead hC) fun d1 d2 d3=>?_
 have hs₁:=hs.grow h₁ tk s.drawn kp
 have zC:z C=none:=by
  cases e:z C with
  |none=>rfl
  |some o=>rw [hs.core.zin _ _ e]at hC;exact k2 hC
 have yC:y C=none:=by
  cases e:y C with
  |none=>rfl
  |some o=>obtain ⟨oo,e'⟩:=(hs.core.yin _ _ e).live;rw [hC]at e';exact k1 e'
 have fC: ∀q o,σ.obj S q=some o→Φ q≠C:=fun q o e h=>by obtain ⟨oo,e'⟩:=(hs.core.rep q o e).live;rw [h,hC]at e';exact k1 e'
 have ydC:yd S env σ (σ.comp C x none k g) Φ y s.heap C=none:=by
  cases e:yd S env σ (σ.comp C x none k g) Φ y s.heap C with
  |none=>rfl
  |some o=>
   rcases C3v e with⟨e1,_⟩|e1
   ·rw [hC]at e1;exact k1 e1
   ·rw [yC]at e1;exact k1 e1
 have xt:Ext0 P z Φ (fun j=>P j∨j= .loc C) z (fun j=>if j= .loc C then C else Φ j):=⟨fun _ h=> .inl h,fun _ _ e=>e,fun j hj=>by exact(if_neg (fun e:j= .loc C=>d1 (by rw [←e];exact hj)))⟩
 have nloc: ∀q o,σ.obj S q=some o→q≠ .loc C:=fun q o e h=>d1 (h▸hs.core.al q o e)
 refine A4x ⟨⟨hs.core.gens,hs.core.os,hs.core.base,fun a o e=>kp _ _ (hs.core.zin a o e),fun a o e=>?_,fun a o e=>?_,fun q o e=>?_,fun q o e=>?_,fun q o e=>?_,fun q o e=>?_,fun q q' o o' e e' h=>?_⟩,hs.ok,O.eok C,⟨fun i h=>?_,fun n h=>hs.pin.win n (h.imp (fun h=>h.resolve_right (k9 rfl)) fun h=>h.resolve_right (k9 rfl)),fun n v h=>hs.pin.kid n v (h.resolve_right (k9 rfl)),fun h=>hs.pin.tree (h.imp (fun h=>h.resolve_right (k9 rfl)) fun h=>h.resolve_right (k9 rfl)),fun h=>hs.pin.wdic (h.resolve_right (k9 rfl)),fun h=>hs.pin.deck (h.resolve_right (k9 rfl))⟩,rfl,if_pos rfl,fun f h=>?_,fun i x' e=>?_,rfl,?_⟩ xt hs₁
 ·rcases C3v e with⟨e1,_⟩|e1
  ·exact .inl (kp _ _ e1)
  ·exact (hs.core.yin _ _ e1).keep (kp a)
 ·rcases C3v e with⟨_,q,o',q2,_,q3⟩|e1
  ·refine (congrArg _ (q3).symm).trans ?_;exact hs.core.zf q o' q2
  ·exact hs.core.zy _ _ e1
 ·rcases A3x e with⟨e,_⟩| ⟨rfl,_⟩
  ·exact .inl (hs.core.al q o e)
  ·exact .inr rfl
 ·rcases A3x e with⟨e1,h1⟩| ⟨rfl,rfl⟩
  ·rw [if_neg (nloc q o e1)];exact(hs.core.rep q o e1).mono xt (kp _)
  ·rw [if_pos rfl]
   exact A1f _ hn (fun i x' av h1 h2=>by cases i <;> cases h2)
 ·rcases A3x e with⟨e1,h1⟩| ⟨rfl,rfl⟩
  ·refine (congrArg _ (if_neg (nloc q o e1))).trans ?_;exact hs.core.zf q o e1
  ·refine (congrArg _ (if_pos rfl)).trans ?_;exact zC
 ·rcases A3x e with⟨e1,h1⟩| ⟨rfl,rfl⟩
  ·refine (congrArg _ (if_neg (nloc q o e1))).trans ?_
   cases w:yd S env σ (σ.comp C x none k g) Φ y s.heap (Φ q)with
   |none=>rfl
   |some o2=>
    rcases C3v w with⟨_,q',o',q2,q1,q3⟩|e2
    ·have:=hs.core.inj q' q _ _ q2 e1 q3
     rw [this,e]at q1;exact k2 q1
    ·rw [hs.core.yf q o e1]at e2;exact k1 e2
  ·refine (congrArg _ (if_pos rfl)).trans ?_;exact ydC
 ·rcases A3x e with⟨e1,h1⟩| ⟨rfl,rfl⟩ <;> rcases A3x e' with⟨e1',h1'⟩| ⟨rfl,rfl⟩
  ·rw [if_neg (nloc q o e1),if_neg (nloc q' o' e1')]at h;exact hs.core.inj q q' _ _ e1 e1' h
  ·rw [if_neg (nloc q o e1),if_pos rfl]at h;exact absurd h (fC q o e1)
  ·rw [if_neg (nloc q' o' e1'),if_pos rfl]at h;exact absurd h.symm (fC q' o' e1')
  ·rfl
 ·have h:=h.resolve_right (k9 rfl);exact absurd h (d2 i)
 ·have old:Pf P f→ ∃o,h₁.get? f=some o:=fun h=>let ⟨o,e⟩:=hs.top f h;⟨o,kp _ _ e⟩
  rcases h with h| ⟨k,h⟩| ⟨k,h⟩|h|h <;> rcases h with h|h
  ·exact old (.inl h)
  ·cases h;obtain ⟨o,_,_,e,_⟩:=hn;exact⟨o,e⟩
  ·exact old (.inr (.inl ⟨k,h⟩))
  ·contradiction
  ·exact old (.inr (.inr (.inl ⟨k,h⟩)))
  ·contradiction
  ·exact old (.inr (.inr (.inr (.inl h))))
  ·contradiction
  ·exact old (.inr (.inr (.inr (.inr h))))
  ·contradiction
 ·have e2:(σ.cnm.take k)[i]? =some x':=e
  have e3:σ.cnm[i]? =some x':=by rw [List.getElem?_take]at e2;split at e2;exact e2;exact k1 e2
  show cl.lookup x'=some (if Key.cel σ.cfid i= .loc C then C else Φ (.cel σ.cfid i))
  rw [if_neg (k9 rfl),O.sub x' (List.mem_of_getElem? e2)];exact hs.cel i x' e3
 ·show (σ.cel.take k).length=(σ.cnm.take k).length
  simp only [List.length_take,List.length_take,hs.lc]
theorem B9y{scope:Scope}{cl:List (Str×Addr)}{x:Str}{ov:Option AV}{k:Nat}{g:List Str}{C:Addr}(hs:Sim S env σ P z y Φ s)(hC:s.heap.get? C=none){P₂ z₂ Φ₂ s₂}
  (x₂:Ext C (yd S env σ (σ.comp C x none k g) Φ y s.heap) (fun j=>P j∨j= .loc C) z (fun j=>if j= .loc C then C else Φ j) P₂ z₂ Φ₂) (hs₂:Sim S (compEnvC scope cl C env) (σ.comp C x ov k g) P₂ z₂ (yd S env σ (σ.comp C x none k g) Φ y s.heap) Φ₂ s₂):
  Ext env.locals y P z Φ P₂ z₂ Φ₂∧Sim S env σ P₂ z₂ y Φ₂ s₂:=by
 refine A1a (hs.dead hC) fun d1 d2 d3=>?_
 have xt:Ext0 P z Φ (fun j=>P j∨j= .loc C) z (fun j=>if j= .loc C then C else Φ j):=⟨fun _ h=> .inl h,fun _ _ e=>e,fun j hj=>by exact(if_neg (fun e:j= .loc C=>d1 (by rw [←e];exact hj)))⟩
 have xx:Ext0 P z Φ P₂ z₂ Φ₂:=xt.trans x₂.toExt0
 have yC:y C=none:=by
  cases e:y C with
  |none=>rfl
  |some o=>obtain ⟨oo,e'⟩:=(hs.core.yin _ _ e).live;rw [hC]at e';exact k1 e'
 have nloc: ∀q o,σ.obj S q=some o→q≠ .loc C:=fun q o e h=>d1 (h▸hs.core.al q o e)
 have lv: ∀q o,σ.obj S q=some o→(σ.comp C x ov k g).obj S q=some o∨(σ.comp C x none k g).obj S q=none:=fun q o e=>by
  cases hq:B0e q with
  |false=>rw [C5z hq];exact .inl e
  |true=>
   cases q with
   |loc f=>
    right;cases w:(σ.comp C x none k g).obj S (.loc f)with
    |none=>rfl
    |some o'=>exact absurd (by rcases A3x w with⟨_,h⟩| ⟨h,_⟩;exact absurd rfl (h f);exact h) (nloc _ _ e)
   |tmp f i=>right;simp [St.obj,St.comp]
   |cel f i=>
    refine A0f (A2e.mp e) fun e1 y9a=>A0e y9a fun c e2 e3=>?_
    by_cases hi:i<k
    ·left;refine A2e.mpr ⟨e1,c,?_,e3⟩
     show(σ.cel.take k)[i]? =some c
     refine((List.getElem?_take).trans (if_pos hi)).trans ?_;exact e2
    ·right
     cases w:(σ.comp C x none k g).obj S (.cel f i)with
     |none=>rfl
     |some o'=>
      refine A0f (A2e.mp w) fun _ y9a=>A0e y9a fun c' e4 _=>?_
      have e4:(σ.cel.take k)[i]? =some c':=e4
      rw [List.getElem?_take,if_neg hi]at e4;exact k1 e4
   |_=>exact k4 hq
 have yf: ∀q o,σ.obj S q=some o→(σ.comp C x none k g).obj S q=none→ ∃oo fl,s.heap.get? (Φ q)=some oo∧yd S env σ (σ.comp C x none k g) Φ y s.heap (Φ q)=some (oo,fl)∧(fl=true→Φ q=env.locals):=fun q o h1 h2=>by
  refine A0i ((hs.core.rep q o h1).live) fun oo e=>?_
  exact B2o oo _ e (C6j h1 h2 e) (fun q=>of_decide_eq_true q)
 have repF: ∀q o,σ.obj S q=some o→(σ.comp C x none k g).obj S q=none→C3n S P₂ z₂ Φ₂ s₂.heap (Φ₂ q) o:=fun q o h1 h2=>by
  refine A1x (yf q o h1 h2) fun oo fl e1 e2 e3=>?_
  rw [xx.f q (hs.core.al q o h1)]
  have R:=hs.core.rep q o h1
  rcases hs₂.core.yin _ _ e2 with w| ⟨w1,sl,w2⟩
  ·exact R.mono xx fun oo' e'=>by rw [e1]at e';cases e';exact w
  ·have ek:=e3 w1
   have:q= .loc σ.fid:=hs.core.inj _ _ _ _ h1 A1l (ek.trans hs.loc.symm)
   subst this
   have eo:o= .locs σ.nam σ.loc:=Option.some.inj (h1.symm.trans A1l)
   subst eo
   refine A0e R fun mm y9a g3=>?_
   try clear R
   obtain ⟨o3,es,ep,g1,g2⟩:=y9a
   rw [e1]at g1;cases g1
   exact A1f mm ⟨_,es,ep,w2,g2⟩ (fun i x' av h1 h2=>let ⟨v,a,b⟩:=g3 i x' av h1 h2;⟨v,a,A1i.mono xx _ _ b⟩)
 have Ploc:P (.loc env.locals):=hs.fid▸hs.core.al _ _ A1l
 have neC:env.locals≠C:=fun e=>d1 (e▸Ploc)
 have xe:Ext env.locals y P z Φ P₂ z₂ Φ₂:=⟨xx,fun f i hf h=>by
  by_cases q:f=C
  ·subst q;exact .inr d1
  ·rcases x₂.fr f i q h with h|h
   ·exact .inl (h.resolve_right (k9 rfl))
   ·exact .inr fun w=>h (.inl w),fun f h=>by
  by_cases q:f=C
  ·subst q;exact .inr yC
  rcases x₂.nf f h with h|h
  ·rcases h with h| ⟨k,h⟩| ⟨k,h⟩|h|h <;> rcases h with h|h
   ·exact .inl (.inl h)
   ·cases h;exact absurd rfl q
   ·exact .inl (.inr (.inl ⟨k,h⟩))
   ·contradiction
   ·exact .inl (.inr (.inr (.inl ⟨k,h⟩)))
   ·contradiction
   ·exact .inl (.inr (.inr (.inr (.inl h))))
   ·contradiction
   ·exact .inl (.inr (.inr (.inr (.inr h))))
   ·contradiction
  ·right
   cases e:y f with
   |none=>rfl
   |some o=>rw [C3u hs.core e]at h;exact k2 h⟩
 refine⟨xe,⟨hs₂.core.gens,hs₂.core.os,hs₂.core.base,hs₂.core.zin,fun a o e=>hs₂.core.yin a o (C3u hs.core e),fun a o e=>hs₂.core.zy a o (C3u hs.core e),fun q o e=>xx.p q (hs.core.al q o e),fun q o e=>?_,fun q o e=>?_,fun q o e=>?_,fun q q' o o' e e' h=>?_⟩,hs.ok,hs.eok,⟨fun i h=>?_,?_,?_,?_,?_,?_⟩,hs.fid,?_,hs₂.top,fun i x' e=>?_,hs.ll,hs.lc⟩
 ·rcases lv q o e with w|w
  ·exact hs₂.core.rep q o w
  ·exact repF q o e w
 ·rcases lv q o e with w|w
  ·exact hs₂.core.zf q o w
  ·refine A1x (yf q o e w) fun oo fl e1 e2 e3=>(congrArg _ (xx.f q (hs.core.al q o e))).trans ?_;exact hs₂.core.zy _ _ e2
 ·refine (congrArg _ (xx.f q (hs.core.al q o e))).trans ?_;exact hs.core.yf q o e
 ·rw [xx.f q (hs.core.al q o e),xx.f q' (hs.core.al q' o' e')]at h;exact hs.core.inj q q' o o' e e' h
 ·have h:P₂ (.tmp σ.fid i):=h
  rw [hs.fid]at h
  rcases x₂.fr _ i neC h with h|h
  ·exact hs.pin.tmp i (by rw [hs.fid];exact h.resolve_right (k9 rfl))
  ·exact absurd (.inl Ploc) h
 ·exact hs₂.pin.win
 ·exact hs₂.pin.kid
 ·exact hs₂.pin.tree
 ·exact hs₂.pin.wdic
 ·exact hs₂.pin.deck
 ·refine (xx.f _ (hs.core.al _ _ A1l)).trans ?_;exact hs.loc
 ·have hi:i<σ.cel.length:=by simp only [hs.lc];exact(List.getElem?_eq_some_iff.mp e).1
  have:P (.cel σ.cfid i):=hs.core.al _ _ (A2e.mpr ⟨rfl,_,List.getElem?_eq_getElem hi,rfl⟩)
  rw [xx.f _ this];exact hs.cel i x' e
end
section
variable {P P':Key→Prop} {z z':Gh} {y:Gy} {Φ Φ':Key→Addr} {s s':Shared}
noncomputable def B8o(S:SP)(d:Nat)(cenv:Env)(τ:St)(ifs:List Expr)(b:Bool):Prop:=match ifs with
 | []=>b=true
 | [c]=>W S d false cenv RB (PySem.isTrue c cenv (PySem.eval c cenv)) τ (fun b' σ'=>σ'=τ∧b'=b) (fun _=>False)
 |_=>False
noncomputable def B1k(S:SP)(d:Nat)(cenv:Env)(τ:St)(elt:Expr)(v:AV):Prop:=W S d false cenv (RV S) (PySem.eval elt cenv) τ (fun v' σ'=>σ'=τ∧v'=v) (fun _=>False)
theorem Off.add{ob:Key→Option CO}{a b:Addr}{o:Obj}(h:Off ob z y Φ a)(hne:a≠b):Off ob z (B8p y b o) Φ a:=⟨h.1,by unfold B8p;refine(if_neg hne).trans ?_;exact h.2.1,h.2.2⟩
theorem W.beside{α β:Type}{R:(Key→Prop)→Gh→(Key→Addr)→β→α→Prop}{t:Sem α}{Q:β→St→Prop}{A:Around}{I D:Addr}{oI oD:Obj}{K:α→Shared→Prop}{E:Value→Shared→Prop}(h:W S d r env R t σ Q fun _=>False)
  (hA:AOK d r env y A) (hs:Sim S env σ P z y Φ s) (hI:s.heap.get? I=some oI) (offI:Off (σ.obj S) z y Φ I) (pfI: ¬Pf P I) (hD:s.heap.get? D=some oD) (offD:Off (σ.obj S) z y Φ D) (pfD: ¬Pf P D) (hne:D≠I)
  (k: ∀a s' P' z' Φ' σ' b,Ext env.locals y P z Φ P' z' Φ'→R P' z' Φ' b a→Sim S env σ' P' z' y Φ' s'→Q b σ'→s'.heap.get? I=some oI→Off (σ'.obj S) z' y Φ' I→ ¬Pf P' I→s'.heap.get? D=some oD→Off (σ'.obj S) z' y Φ' D→ ¬Pf P' D→K a s'):
  wpAny (model S.prog S.w) A t K E s:=by
 have h1:=hs.hold hI offI
 have offD1:=offD.add (o:=oI) hne
 have h2:=h1.hold hD offD1
 refine W.run h ((hA.add offI.2.1).add offD1.2.1) h2 (fun a s' P' z' Φ' σ' b x r hs' hq=>?_) fun e s' hx=>D0e hx
 refine A1a (hs'.unhold offD1.2.1) fun hs1 e1 o1=>A1a (hs1.unhold offI.2.1) fun hs2 e2 o2=>A0f (x.unadd offD1.2.1) fun x1 p1=>A0f (x1.unadd offI.2.1) fun x2 p2=>?_
 have o3:Off (σ'.obj S) z' y Φ' D:=⟨o1.1,by have:=o1.2.1;unfold B8p at this;replace this:=(if_neg hne).symm.trans this;exact this,o1.2.2⟩
 exact k a s' P' z' Φ' σ' b x2 r hs2 hq e2 o2 (p2 pfI) e1 o3 (p1 pfD)
theorem C3i{cenv:Env}{ifs:List Expr}{b:Bool}{A:Around}{I D:Addr}{oI oD:Obj}{K:Bool→Shared→Prop}{E:Value→Shared→Prop}{τ:St}(h:B8o S d cenv τ ifs b)
  (hA:AOK d false cenv y A) (hs:Sim S cenv τ P z y Φ s) (hI:s.heap.get? I=some oI) (offI:Off (τ.obj S) z y Φ I) (pfI: ¬Pf P I) (hD:s.heap.get? D=some oD) (offD:Off (τ.obj S) z y Φ D) (pfD: ¬Pf P D) (hne:D≠I)
  (k: ∀s' P' z' Φ',Ext cenv.locals y P z Φ P' z' Φ'→Sim S cenv τ P' z' y Φ' s'→s'.heap.get? I=some oI→Off (τ.obj S) z' y Φ' I→ ¬Pf P' I→s'.heap.get? D=some oD→Off (τ.obj S) z' y Φ' D→ ¬Pf P' D→K b s'):
  wpAny (model S.prog S.w) A (forIn ifs true fun c r=>if r=true then do let ok ←PySem.isTrue c cenv (PySem.eval c cenv);pure (ForInStep.yield ok)else pure (ForInStep.yield r)) K E s:=by
 match ifs,h with
 | [],h=>
  have h:b=true:=h
  subst h
  exact wpAny_tests_nil (k s P z Φ Ext.refl hs hI offI pfI hD offD pfD)
 | [c],h=>
  have h:W S d false cenv RB (PySem.isTrue c cenv (PySem.eval c cenv)) τ (fun b' σ'=>σ'=τ∧b'=b) (fun _=>False):=h
  refine wpAny_tests_one (h.beside hA hs hI offI pfI hD offD pfD hne fun a s' P' z' Φ' σ' b' x r hs' hq e1 o1 p1 e2 o2 p2=>?_)
  refine A0f hq fun y9a y9b=>?_
  try clear hq
  obtain rfl:=y9a
  obtain rfl:=y9b
  have e:a=b':=r
  subst e
  exact k s' P' z' Φ' x hs' e1 o1 p1 e2 o2 p2
 |_::_::_,h=>exact False.elim h
theorem C5y{C:Addr}{x:Str}{k:Nat}{g:List Str}{cenv:Env}{xp:Pos}{elt iter:Expr}{ifs:List Expr}{scope:Scope}{pos:Pos}{A:Around}{I D:Addr}{n:Nat}{Pw:Nat→Value→Prop}{Stt:Nat→Heap→Prop}{fp:List Addr}{l:List AV}{p:AV→Bool}{f:AV→AV}{R:Result→Shared→Prop}
  (hl:cenv.locals=C) (hA:AOK d false cenv y A) (WK:Walks S.prog S.w A I fp [I] n Pw Stt) (hfp: ∀b∈fp,b=I∨ ∃o,z b=some o) (hln:l.length=n) (hn:n≤100000) (hP: ∀i v a,Pw i v→l[i]? =some a→A1i S P z Φ a v)
  (hs:Sim S cenv (σ.comp C x none k g) P z y Φ s) (offI:Off ((σ.comp C x none k g).obj S) z y Φ I) (pfI: ¬Pf P I) (offD:Off ((σ.comp C x none k g).obj S) z y Φ D) (pfD: ¬Pf P D) (hne:D≠I) (hst:Stt 0 s.heap) (hD:s.heap.PlainList D #[])
  (hlive: ∀i h,Stt i h→ ∃o,h.get? I=some o) (ht: ∀a∈l,B8o S d cenv (σ.comp C x (some a) k g) ifs (p a)) (he: ∀a∈l,p a=true→B1k S d cenv (σ.comp C x (some a) k g) elt (f a))
  (hR: ∀s' P' z' Φ' ov ys,Ext C y P z Φ P' z' Φ'→Sim S cenv (σ.comp C x ov k g) P' z' y Φ' s'→Off ((σ.comp C x ov k g).obj S) z' y Φ' D→ ¬Pf P' D→s'.heap.PlainList D ys→A0c S P' z' Φ' ((l.filter p).map f) ys.toList→R (.ok .next) s'):
  codeAny (model S.prog S.w) A (.compLoop (.ListComp elt [⟨.Name x xp,iter,ifs,0⟩] scope pos) 0 (.ref I) (.ref D) cenv) R s:=by
 have offv: ∀{ov ov':Option AV} {z:Gh} {y:Gy} {Φ:Key→Addr} {a:Addr},Off ((σ.comp C x ov k g).obj S) z y Φ a→Off ((σ.comp C x ov' k g).obj S) z y Φ a:=fun{ov ov' z y Φ a} h=>⟨h.1,h.2.1,fun q o e=>by
  rcases A3x e with⟨e1,e2⟩| ⟨rfl,rfl⟩
  ·refine h.2.2 q o ?_
   cases q with
   |loc f=>exact absurd rfl (e2 f)
   |_=>exact e
  ·exact h.2.2 (.loc C) _ (A3c.mpr ⟨rfl,rfl⟩)⟩
 let I9:Nat→Shared→Prop:=fun m s'=> ∃i P' z' Φ' ov ys,m=n+1-i∧i≤n∧Ext C y P z Φ P' z' Φ'∧Sim S cenv (σ.comp C x ov k g) P' z' y Φ' s'∧Off ((σ.comp C x ov k g).obj S) z' y Φ' I∧ ¬Pf P' I∧Off ((σ.comp C x ov k g).obj S) z' y Φ' D∧ ¬Pf P' D∧Stt i s'.heap∧s'.heap.PlainList D ys∧A0c S P' z' Φ' (((l.take i).filter p).map f) ys.toList
 refine codeAny_compLoop_tests I9 ?_ (n+1)
  ⟨0,P,z,Φ,none,#[],rfl,Nat.zero_le _,Ext.refl,hs,offI,pfI,offD,pfD,hst,hD,by exact A0c.nil⟩
 intro m s' h9
 refine A7s h9 fun i P' z' Φ' ov y9a=>?_
 try clear h9
 refine A5l y9a fun ys y9b hi x' hs' offI' y9c=>B8a y9c fun pfI' offD' pfD' hst' hD' hv'=>?_
 obtain rfl:=y9b
 by_cases hlt:i<n
 ·refine WK.item i _ _ _ hlt hst' fun v h₁ tk hv hst₁ hk₁=>?_
  have hs₁:Sim S cenv (σ.comp C x ov k g) P' z' y Φ' {s' with heap:=h₁,toks:=tk}:=hs'.turn offI' h₁ tk (fun b o hb e=>hk₁ b o (by simpa using hb) e) pfI'
  have hli:l[i]? =some l[i]:=List.getElem?_eq_getElem (by exact Z5 hln hlt)
  have hmem:l[i]∈l:=List.getElem_mem _
  have hvr:A1i S P' z' Φ' l[i] v:=A1i.mono x'.toExt0 _ _ (hP i v _ hv hli)
  refine A0i (hlive _ _ hst₁) fun oI hoI=>A0i (id hD') fun nD hoD=>?_
  have hoD₁:h₁.get? D=some _:=hk₁ D _ (by simpa using hne) hoD
  have frm: ∀{h₂:Heap} {P₂ z₂ Φ₂},Ext C y P' z' Φ' P₂ z₂ Φ₂→(∀b o,z₂ b=some o→h₂.get? b=some o)→h₂.get? I=some oI→Stt (i+1) h₂:=fun{h₂ P₂ z₂ Φ₂} x₂ hz h2=>WK.frame _ _ _ hst₁ fun b hb o e=>by
   rcases hfp b hb with q| ⟨o',ho'⟩
   ·subst q;rw [hoI]at e;cases e;exact h2
   ·have h1:=hs₁.core.zin b _ (x'.z _ _ ho')
    have h1:h₁.get? b=_:=h1
    rw [h1]at e;cases e;exact hz b _ (x₂.z _ _ (x'.z _ _ ho'))
  have tk1:(l.take (i+1)).filter p=(l.take i).filter p++(if p l[i]then [l[i]]else []):=take_succ_filter p l i _ hli
  have hh:=(hs₁.hold hoI offI').hold hoD₁ (offD'.add hne)
  refine wpAny_assign_Name (A3b (l':= [some l[i]]) hh .head hvr fun s₂ hs₂=>?_)
  refine A1a (hs₂.unhold (offD'.add hne).2.1) fun hs₃ eD₃ oD₃=>A1a (hs₃.unhold offI'.2.1) fun hs₄ eI₄ oI₄=>?_
  have hs₄:Sim S cenv (σ.comp C x (some l[i]) k g) P' z' y Φ' s₂:=hs₄
  refine C3i (ht _ hmem) hA hs₄ eI₄ (offv offI') pfI' eD₃ (offv offD') pfD' hne fun s₅ P₅ z₅ Φ₅ x₅ hs₅ eI₅ oI₅ pI₅ eD₅ oD₅ pD₅=>?_
  rw [hl]at x₅
  cases hp:p l[i]with
  |false=>
   simp [Bool.false_eq_true,if_false]
   refine A1f (n+1- (i+1)) (by exact Z6 hlt) (C1e (i+1) P₅ z₅ Φ₅ _ (B0f ys rfl hlt (x'.trans x₅) hs₅ oI₅ (D0r pI₅ oD₅ pD₅ (frm x₅ hs₅.core.zin eI₅) ⟨_,eD₅⟩ ?_)))
   rw [tk1,hp];simpa using A0c.mono x₅.toExt0 _ _ hv'
  |true=>
   simp [if_true]
   refine W.beside (he _ hmem hp) hA hs₅ eI₅ oI₅ pI₅ eD₅ oD₅ pD₅ hne fun u s₆ P₆ z₆ Φ₆ σ₆ b x₆ r₆ hs₆ hq eI₆ oI₆ pI₆ eD₆ oD₆ pD₆=>?_
   rw [hl]at x₆
   refine A0f hq fun y9a y9b=>?_
   try clear hq
   obtain rfl:=y9a
   obtain rfl:=y9b
   have hv6:=A0c.app (A0c.mono (x₅.trans x₆).toExt0 _ _ hv') (A0c.cons (show A1i S P₆ z₆ Φ₆ (f l[i]) u from r₆) A0c.nil)
   have hys:ys.size≤sizeLine:=by
    have:=hv'.size
    simp only [this,List.length_map]
    have h1:=List.length_filter_le p (l.take i)
    have h2:(l.take i).length≤i:=by rw [List.length_take];exact Nat.min_le_left _ _
    simp only [sizeLine_eq];lia
   refine wpAny_list_append_plain (hsz:=hys) ⟨_,eD₆⟩ fun h₇ hl₇ hs₇=>?_
   have keep: ∀b o,b≠D→s₆.heap.get? b=some o→h₇.get? b=some o:=fun b o hb e=>(hs₇.2 b hb).trans e
   refine A1f (n+1- (i+1)) (by exact Z6 hlt) (C1e (i+1) P₆ z₆ Φ₆ _ (B0f (ys.push u) rfl hlt (x'.trans (x₅.trans x₆)) (hs₆.turn oD₆ h₇ s₆.toks keep pD₆) oI₆ (D0r pI₆ oD₆ pD₆ (frm (x₅.trans x₆) (fun b o e=>keep b o (fun q=>by rw [q,oD₆.1]at e;exact k1 e) (hs₆.core.zin b o e)) (keep _ _ (Ne.symm hne) eI₆)) hl₇ ?_)))
   rw [tk1,hp];simpa using hv6
 ·have hin:i=n:=by exact Z7 hi hlt
  subst hin
  have e:l.take i=l:=List.take_of_length_le (Nat.le_of_eq hln)
  rw [e]at hv'
  refine WK.done _ _ _ hst' fun h₁ tk hk₁=>hR _ P' z' Φ' ov ys x' (hs'.turn offI' h₁ tk (fun b o hb e=>hk₁ b o (by simpa using hb) e) pfI') offD' pfD' ?_ hv'
  refine A0i hD' fun nD hoD=>?_
  try clear hD'
  exact⟨nD,hk₁ D _ (by simpa using hne) hoD⟩
end
section
variable {P P':Key→Prop} {z z':Gh} {y:Gy} {Φ Φ':Key→Addr} {s s':Shared}
theorem Sim.turnL(hs:Sim S env σ P z y Φ s){a:Addr}(hoff:Off (σ.obj S) z y Φ a)(h':Heap)(tk:Nat)(k: ∀b o,b≠a→s.heap.get? b=some o→h'.get? b=some o)(hl: ∃o,h'.get? a=some o):Sim S env σ P z y Φ {s with heap:=h',toks:=tk}:=by
 refine A1a hoff fun h1 h2 h3=>?_
 try clear hoff
 refine⟨⟨hs.core.gens,hs.core.os,hs.core.base,fun b o e=>k b o (fun q=>by rw [q,h1]at e;exact k1 e) (hs.core.zin b o e),fun b p e=>(hs.core.yin b p e).keep fun oo e'=>k b oo (fun q=>by rw [q,h2]at e;exact k1 e) e',hs.core.zy,hs.core.al,
  fun q o e=>(hs.core.rep q o e).mono Ext0.refl fun oo e'=>k _ oo (h3 q o e) e',hs.core.zf,hs.core.yf,hs.core.inj⟩,hs.ok,hs.eok,hs.pin,hs.fid,hs.loc,fun f hf=>?_,hs.cel,hs.ll,hs.lc⟩
 refine A0i (hs.top f hf) fun o e=>?_
 by_cases q:f=a
 ·subst q;exact hl
 ·exact ⟨o,k f o q e⟩
theorem Sim.freezeOff(hs:Sim S env σ P z y Φ s){a:Addr}{o:Obj}(hoff:Off (σ.obj S) z y Φ a)(ho:s.heap.get? a=some o):Sim S env σ P (fun b=>if b=a then some o else z b) y Φ s∧Ext0 P z Φ P (fun b=>if b=a then some o else z b) Φ:=by
 refine A1a hoff fun h1 h2 h3=>?_
 try clear hoff
 have x:Ext0 P z Φ P (fun b=>if b=a then some o else z b) Φ:=⟨fun _ h=>h,fun b o' e=>by
  by_cases q:b=a
  ·subst q;rw [h1]at e;exact k1 e
  ·simp [q,if_false];exact e,fun _ _=>rfl⟩
 refine⟨⟨⟨hs.core.gens,hs.core.os,fun b o' e=>x.z _ _ (hs.core.base b o' e),fun b o' e=>?_,hs.core.yin,fun b o' e=>?_,hs.core.al,fun q o' e=>(hs.core.rep q o' e).mono x fun _ e=>e,fun q o' e=>?_,hs.core.yf,hs.core.inj⟩,hs.ok,hs.eok,hs.pin,hs.fid,hs.loc,hs.top,hs.cel,hs.ll,hs.lc⟩,x⟩
 ·by_cases q:b=a
  ·subst q;simp only [if_true]at e;cases e;exact ho
  ·simp [q,if_false]at e;exact hs.core.zin _ _ e
 ·by_cases q:b=a
  ·subst q;rw [h2]at e;exact k1 e
  ·simp [q,if_false];exact hs.core.zy b o' e
 ·simp [h3 q o' e,if_false];exact hs.core.zf q o' e
theorem B3g{C a:Addr}{x:Str}{k:Nat}{g:List Str}(hs:Sim S env σ P z y Φ s)(ha:s.heap.get? a=none)(hne:a≠C)(hC:s.heap.get? C=none):
  Off ((σ.comp C x none k g).obj S) z (yd S env σ (σ.comp C x none k g) Φ y s.heap) (fun j=>if j= .loc C then C else Φ j) a∧ ¬Pf (fun j=>P j∨j= .loc C) a:=by
 refine A1a (hs.off ha) fun o1 o2 o3=>A1a (hs.dead hC) fun d1 _ _=>⟨⟨o1,?_,fun q o e h=>?_⟩,fun h=>?_⟩
 ·cases w:yd S env σ (σ.comp C x none k g) Φ y s.heap a with
  |none=>rfl
  |some o=>
   rcases C3v w with⟨e1,_⟩|e1
   ·rw [ha]at e1;exact k1 e1
   ·rw [o2]at e1;exact k1 e1
 ·dsimp only at h
  rcases A3x e with⟨e1,_⟩| ⟨rfl,_⟩
  ·rw [if_neg (fun w:q= .loc C=>d1 (by rw [←w];exact hs.core.al q o e1))]at h
   exact o3 q o e1 h
  ·rw [if_pos rfl]at h;exact hne h.symm
 ·refine hs.nopf ha ?_
  rcases h with h| ⟨k,h⟩| ⟨k,h⟩|h|h <;> rcases h with h|h
  ·exact .inl h
  ·cases h;exact absurd rfl hne
  ·exact .inr (.inl ⟨k,h⟩)
  ·contradiction
  ·exact .inr (.inr (.inl ⟨k,h⟩))
  ·contradiction
  ·exact .inr (.inr (.inr (.inl h)))
  ·contradiction
  ·exact .inr (.inr (.inr (.inr h)))
  ·contradiction
noncomputable def C8y(S:SP)(d:Nat)(env:Env)(scope:Scope)(cl:List (Str×Addr))(x:Str)(ifs:List Expr)(elt:Expr)(g:List Str)(a:AV)(σ:St)(Q:AV→St→Prop):Prop:=
 ∃(l:List AV) (k:Nat) (p:AV→Bool) (f:AV→AV),a= .lst l∧l.length≤100000∧CompOK env scope cl x (σ.cnm.take k) g∧(∀C,∀a∈l,B8o S d (compEnvC scope cl C env) (σ.comp C x (some a) k g) ifs (p a))∧
  (∀C,∀a∈l,p a=true→B1k S d (compEnvC scope cl C env) (σ.comp C x (some a) k g) elt (f a))∧Q (.lst ((l.filter p).map f)) σ
theorem AOK.any{env':Env}{y':Gy}{A:Around}(h:AOK d r env y A):AOK d false env' y' A:=⟨h.h,h.dep,h.uni,fun q=>by exact k4 q⟩
theorem B9x{x:Str}{xp:Pos}{elt iter:Expr}{ifs:List Expr}{scope:Scope}{cl:List (Str×Addr)}{pos:Pos}{g:List Str}{A:Around}{k:Nat}{p:AV→Bool}{f:AV→AV}{l:List AV}{xv:Value}{RR:Value→Addr→Result→Shared→Prop}{E:Value→Shared→Prop}
  (hA:AOK d r env y A) (hs:Sim S env σ P z y Φ s) (hv:A1i S P z Φ (.lst l) xv) (hln:l.length≤100000) (O:CompOK env scope cl x (σ.cnm.take k) g)
  (ht: ∀C,∀a∈l,B8o S d (compEnvC scope cl C env) (σ.comp C x (some a) k g) ifs (p a)) (he: ∀C,∀a∈l,p a=true→B1k S d (compEnvC scope cl C env) (σ.comp C x (some a) k g) elt (f a))
  (hR: ∀C D oC nD ys s' P' z' Φ',Ext env.locals y P z Φ P' z' Φ'→Sim S env σ P' z' y Φ' s'→C≠D→s'.heap.get? C=some oC→(∃m,s'.heap.Ns C m)→Off (σ.obj S) z' y Φ' C→s'.heap.get? D=some ⟨.type "list",none,.seq ys nD,#[]⟩→Off (σ.obj S) z' y Φ' D→ ¬Pf P' D→A0c S P' z' Φ' ((l.filter p).map f) ys.toList→RR (.ref D) C (.ok .next) s'):
  wpAny (model S.prog S.w) A (pyIter xv) (fun it s₂=>wpAny (model S.prog S.w) A (newList []) (fun acc s₃=>wpAny (model S.prog S.w) A (newFunctionEnv scope env.globals cl [] env.qual none .none (some env)) (fun cenv s₄=>
   codeAny (model S.prog S.w) A (.compStart (.ListComp elt [⟨.Name x xp,iter,ifs,0⟩] scope pos) 0 it acc {cenv with scope:=relabel scope env}) (RR acc cenv.locals) s₄) E s₃) E s₂) E s:=by
 obtain ⟨b,its,n,rfl,hz,hv⟩:=A8h hv
 have hb:=hs.core.zin _ _ hz
 have hl:s.heap.IsList b its:=⟨_,hb,rfl,n,rfl⟩
 refine wpAny_pyIter_list hl (wpAny_newObj_type (wpAny_newFunctionEnv O.ncell (by intro y hy;exact k3 hy) (fun h₁ hns₁ hsb₁=>?_) O.kind))
 dsimp only at hns₁ hsb₁ ⊢
 generalize hH1:s.heap.push {cls:= .type "list_iterator",data:= .fields #[.ref b,.int 0 0]}=H1 at hns₁ hsb₁ ⊢
 have sz1:H1.objs.size=s.heap.objs.size+1:=by simp only [←hH1,Heap.size_push]
 generalize hH2:H1.push {cls:= .type "list",dict:=none,data:= .seq ([]:List Value).toArray}=H2 at hns₁ hsb₁ ⊢
 have sz2:H2.objs.size=s.heap.objs.size+2:=by simp only [←hH2,Heap.size_push,sz1]
 have fresh: ∀a:Nat,s.heap.objs.size≤a→s.heap.get? a=none:=fun a ha=>Heap.get?_none_of_le ha
 have nI:s.heap.get? s.heap.objs.size=none:=fresh _ (Nat.le_refl _)
 have nD:s.heap.get? H1.objs.size=none:=fresh _ (by simp only [sz1];exact Nat.le_succ _)
 have nC:s.heap.get? H2.objs.size=none:=fresh _ (by simp only [sz2];exact Nat.le_add_right _ _)
 have hIC:s.heap.objs.size≠H2.objs.size:=by simp only [sz2];exact Nat.ne_of_lt (Nat.lt_add_of_pos_right (Nat.le_of_ble_eq_true rfl))
 have hDC:H1.objs.size≠H2.objs.size:=by simp only [sz1,sz2];exact Nat.ne_of_lt (Nat.lt_succ_self _)
 have hDI:H1.objs.size≠s.heap.objs.size:=by rw [sz1];exact Nat.succ_ne_self _
 have hbI:b≠s.heap.objs.size:=Nat.ne_of_lt (Heap.lt_size hb)
 have up: ∀a o,a≠H2.objs.size→H2.get? a=some o→h₁.get? a=some o:=fun a o hne e=>hsb₁.extBut a o hne (Heap.get?_push_of_some _ e)
 have i2:H2.get? s.heap.objs.size=some {cls:= .type "list_iterator",data:= .fields #[.ref b,.int 0 0]}:=hH2▸Heap.get?_push_of_some _ (hH1▸Heap.get?_push_size _ rfl)
 have d2:H2.get? H1.objs.size=some {cls:= .type "list",dict:=none,data:= .seq ([]:List Value).toArray}:=hH2▸Heap.get?_push_size _ rfl
 have old: ∀a o,s.heap.get? a=some o→h₁.get? a=some o:=fun a o e=>up a o (fun q=>by rw [q,nC]at e;exact k1 e) (hH2▸Heap.get?_push_of_some _ (hH1▸Heap.get?_push_of_some _ e))
 refine A1a (B6n (k:=k) (g:=g) (x:=x) hs O nC (tk:=s.toks+ ([]:List (Str×Value)).length) old hns₁) fun hc xt hs₁=>A0f (B3g (x:=x) (k:=k) (g:=g) hs nI hIC nC) fun oI pI=>A0f (B3g (x:=x) (k:=k) (g:=g) hs nD hDC nC) fun oD pD=>?_
 have WK:=Walks.list (prog:=S.prog) (w:=S.w) hA.h s.heap.objs.size b hbI its
 have hst:h₁.IsListIter s.heap.objs.size b 0∧h₁.IsList b its:=⟨⟨_,up _ _ hIC i2,rfl,rfl⟩,⟨_,old _ _ hb,rfl,n,rfl⟩⟩
 have loop: ∀s₃:Shared,s₃={s with heap:=h₁,toks:=s.toks+ ([]:List (Str×Value)).length}→
   codeAny (model S.prog S.w) A (.compLoop (.ListComp elt [⟨.Name x xp,iter,ifs,0⟩] scope pos) 0 (.ref s.heap.objs.size) (.ref H1.objs.size) (compEnvC scope cl H2.objs.size env)) (RR (.ref H1.objs.size) H2.objs.size) s₃:=by
  rintro s₃ rfl
  refine C5y (C:=H2.objs.size) rfl hA.any WK ?_ hv.size.symm (by rw [hv.size];exact hln) ?_ hc oI pI oD pD hDI hst ⟨_,up _ _ hDC d2⟩ (fun i h ⟨⟨o,e,_⟩,_⟩=>⟨o,e⟩) (ht _) (he _) fun s' P' z' Φ' ov ys x' hs' offD' pfD' hD' hv'=>?_
  ·intro c hcm
   rcases List.mem_cons.mp hcm with rfl|hcm
   ·exact .inl rfl
   ·rw [List.mem_singleton.mp hcm];exact .inr ⟨_,hz⟩
  ·intro i v a hi ha
   refine A0e (hv.at i ha) fun u e1 e2=>?_
   rw [Array.getElem?_toList]at e1
   rw [e1]at hi;cases hi;exact A1i.mono xt _ _ e2
  ·refine A0f (B9y hs nC x' hs') fun xb hsb=>A0i hD' fun nn hD'=>?_
   have R:=hs'.core.rep (.loc H2.objs.size) _ (A3c.mpr ⟨rfl,rfl⟩)
   simp only [show Φ' (.loc H2.objs.size)=H2.objs.size from hs'.loc]at R
   refine A0e R fun mm hm _=>?_
   try clear R
   refine A0i (B1s hm) fun oC eC=>?_
   have far: ∀a,s.heap.get? a=none→z' a=none→Off (σ.obj S) z' y Φ' a:=fun a ha hz'=>⟨hz',(hs.off ha).2.1,fun q o e w=>by
    rw [xb.f q (hs.core.al q o e)]at w;exact(hs.off ha).2.2 q o e w⟩
   refine hR _ _ oC nn ys s' P' z' Φ' xb hsb (Ne.symm hDC) eC ⟨mm,hm⟩ (far _ nC ?_) hD' (far _ nD offD'.1) pfD' hv'
   have:=hs'.core.zf (.loc H2.objs.size) _ (A3c.mpr ⟨rfl,rfl⟩)
   rwa [show Φ' (.loc H2.objs.size)=H2.objs.size from hs'.loc]at this
 exact codeAny_compStart_list (loop _ rfl) (WK.self 0 _ _ _ hst (loop _ rfl))
theorem A9f{x:Str}{xp:Pos}{elt iter:Expr}{ifs:List Expr}{scope:Scope}{cl:List (Str×Addr)}{pos:Pos}{g:List Str}{Q:AV→St→Prop}(hclos:closureFor scope env=pure cl)(hk:scope.kind= .function)(hnm: ∀y∈scope.names,y.2= .local→scope.names.lookup y.1=some .local)(hfs: ∀v,foldedSetIterable iter env v=pure v)
  (h:W S d r env (RV S) (eval iter env) σ (fun a σ₁=>C8y S d env scope cl x ifs elt g a σ₁ Q) X):W S d r env (RV S) (eval (.ListComp elt [⟨.Name x xp,iter,ifs,0⟩] scope pos) env) σ Q X:=fun A P z y Φ s hA hs=>by
 simp only [eval_ListComp]
 refine B3f (use:=none) rfl hfs hclos hk hnm (h.run hA hs (fun v s₁ P₁ z₁ Φ₁ σ₁ a x₁ r₁ hs₁ h₁=>?_) fun _ _ e=>e)
 refine C1j h₁ fun l k p f y9a hl O ht he hq=>?_
 try clear h₁
 obtain rfl:=y9a
 refine B9x (RR:=fun acc C=>B1j (model S.prog S.w) A (A9p S env P z y Φ X) none (Res S env (RV S) P z y Φ Q) acc C) hA hs₁ r₁ hl O ht he ?_
 intro C D oC nD ys s' P' z' Φ' x' hs' hCD eC hm offC eD offD pfD hv
 refine A0i hm fun m hm=>A1f m hm (fun h' m' hn' hsb=>?_)
 have hs₂:=hs'.turnL offC h' s'.toks (fun b o hb e=>(hsb.2 b hb).trans e) (B1s hn')
 refine A0f (hs₂.freezeOff offD (show h'.get? D=some _ from(hsb.2 D (Ne.symm hCD)).trans eD)) fun hs₃ xf=>?_
 exact Res.intro (b:= .lst ((l.filter p).map f)) ((x₁.trans x').trans ⟨xf,fun _ _ _ h=> .inl h,fun _ h=> .inl h⟩) (C6l (if_pos rfl) (A0c.mono xf _ _ hv)) hs₃ hq
theorem A4j{x t:Str}{xp tp:Pos}{elt iter:Expr}{ifs:List Expr}{scope:Scope}{cl:List (Str×Addr)}{pos spos:Pos}{g:List Str}{Q:AF→St→Prop}(hsw:swapsWith (.ListComp elt [⟨.Name x xp,iter,ifs,0⟩] scope pos) (some (.Name t tp)) spos.line env=pure true)(hclos:closureFor scope env=pure cl)(hk:scope.kind= .function)(hnm: ∀y∈scope.names,y.2= .local→scope.names.lookup y.1=some .local)(hfs: ∀v,foldedSetIterable iter env v=pure v)
  (h:W S d r env (RV S) (eval iter env) σ (fun a σ₁=>C8y S d env scope cl x ifs elt g a σ₁ fun v σ₂=>A9c σ₂ t v (Q .next)) X):W S d r env (RF S) (exec (.Assign [.Name t tp] (.ListComp elt [⟨.Name x xp,iter,ifs,0⟩] scope pos) spos) env) σ Q X:=fun A P z y Φ s hA hs=>by
 rw [exec_Assign_Name_used _ _ _ _ hsw]
 refine wpAny_bind (wpAny_standAt (wpAny_bind ?_))
 show wpAny _ A (do let _ ←comprehension (.ListComp elt [⟨.Name x xp,iter,ifs,0⟩] scope pos) scope env _ (newList []) false (eval iter env) (some (assign (.Name t tp) env))) _ _ s
 refine wpAny_bind (wpAny_mono (B3f (use:=some (assign (.Name t tp) env)) (Q:=fun _ s'=>Res S env (RF S) P z y Φ Q .next s') (E:=A9p S env P z y Φ X) rfl hfs hclos hk hnm (h.run hA hs (fun v s₁ P₁ z₁ Φ₁ σ₁ a x₁ r₁ hs₁ h₁=>?_) fun _ _ e=>e))
  (fun _ s' hq=>wpAny_pure (wpAny_pure hq)) fun _ _ e=>e)
 refine C1j h₁ fun l k p f y9a hl O ht he y9b=>?_
 try clear h₁
 refine A0e y9b fun l' hput hq=>?_
 obtain rfl:=y9a
 refine B9x (RR:=fun acc C=>B1j (model S.prog S.w) A (A9p S env P z y Φ X) (some (assign (.Name t tp) env)) (fun _ s'=>Res S env (RF S) P z y Φ Q .next s') acc C) hA hs₁ r₁ hl O ht he ?_
 intro C D oC nD ys s' P' z' Φ' x' hs' hCD eC hm offC eD offD pfD hv
 refine A0i hm fun m hm=>?_
 show wpAny _ A (assign (.Name t tp) env (.ref D)) _ _ s'
 refine A0f (hs'.freezeOff offD eD) fun hs₃ xf=>?_
 have hvD:A1i S P' (fun b=>if b=D then some ⟨.type "list",none,.seq ys nD,#[]⟩else z' b) Φ' (.lst ((l.filter p).map f)) (.ref D):=C6l (if_pos rfl) (A0c.mono xf _ _ hv)
 have offC':Off (σ₁.obj S) (fun b=>if b=D then some ⟨.type "list",none,.seq ys nD,#[]⟩else z' b) y Φ' C:=⟨by simp [hCD,if_false];exact offC.1,offC.2.1,offC.2.2⟩
 have hh:=hs₃.hold eC offC'
 refine wpAny_assign_Name (A3b hh hput hvD fun s₄ hs₄=>?_)
 refine A1a (hs₄.unhold offC'.2.1) fun hs₅ eC₅ oC₅=>A1f m (B0b hm fun o e=>by rw [eC]at e;cases e;exact eC₅) (fun h' m' hn' hsb=>?_)
 exact Res.intro (b:= .next) ((x₁.trans x').trans ⟨xf,fun _ _ _ h=> .inl h,fun _ h=> .inl h⟩) A1y (hs₅.turnL oC₅ h' s₄.toks (fun b o hb e=>(hsb.2 b hb).trans e) (B1s hn')) hq
end
theorem C9g{cenv:Env}{τ:St}:B8o S d cenv τ [] true:=rfl
theorem B6m{cenv:Env}{τ:St}{c:Expr}{b:Bool}(h:W S d false cenv RB (PySem.isTrue c cenv (PySem.eval c cenv)) τ (fun b' σ'=>σ'=τ∧b'=b) (fun _=>False)):B8o S d cenv τ [c] b:=h
theorem B2t{cenv:Env}{τ:St}{e:Expr}{v:AV}(h:W S d false cenv (RV S) (PySem.eval e cenv) τ (fun v' σ'=>σ'=τ∧v'=v) (fun _=>False)):B1k S d cenv τ e v:=h
theorem B8b{α:Type}{l:List α}{enc:α→AV}{x:Str}{elt:Expr}{ifs:List Expr}{scope:Scope}{cl:List (Str×Addr)}{g:List Str}{Q:AV→St→Prop}(dec:AV→Option α)(hdec: ∀a,dec (enc a)=some a){cnm':List Str}{cel':List (Option AV)}(k:Nat)(p:α→Bool)(f:α→AV)(hl:l.length≤100000)(hc:cnm.take k=cnm')(hc2:cel.take k=cel')(O:CompOK env scope cl x cnm' g)
  (ht: ∀C,∀n∈l,B8o S d (compEnvC scope cl C env) (St.mk tr dk nw rl tb C [x] [some (enc n)] [] cfid cnm' cel' g) ifs (p n)) (he: ∀C,∀n∈l,p n=true→B1k S d (compEnvC scope cl C env) (St.mk tr dk nw rl tb C [x] [some (enc n)] [] cfid cnm' cel' g) elt (f n))
  (h:Q (.lst ((l.filter p).map f)) (St.mk (tr) dk nw rl tb fid nam loc tmp cfid cnm cel glb)):C8y S d env scope cl x ifs elt g (.lst (l.map enc)) (St.mk (tr) dk nw rl tb fid nam loc tmp cfid cnm cel glb) Q:=by
 subst hc hc2
 refine D4m (l.map enc) k (fun a=>(dec a).elim false p) (fun a=>(dec a).elim .none f) rfl (by simpa using hl) O (fun C a ha=>?_) (fun C a ha hp=>?_) ?_
 ·refine A0e (List.mem_map.mp ha) fun n hn y9a=>?_
  obtain rfl:=y9a
  show B8o _ _ _ _ _ ((dec (enc n)).elim false p)
  simp only [hdec];exact ht C n hn
 ·refine A0e (List.mem_map.mp ha) fun n hn y9a=>?_
  obtain rfl:=y9a
  dsimp only at hp ⊢;rw [hdec]at hp ⊢;exact he C n hn hp
 ·have e1:((l.map enc).filter fun a=>(dec a).elim false p).map (fun a=>(dec a).elim .none f)=(l.filter p).map f:=by
   simp only [List.filter_map,List.map_map]
   have:(fun a=>(dec a).elim false p)∘enc=p:=by funext n;simp [hdec]
   rw [this]
   refine List.map_congr_left fun n _=>?_
   simp [hdec]
  simp only [e1];exact h
noncomputable def D3f:AV→Option Int
 | .int n=>some n
 |_=>none
theorem A6t{l:List Int}{x:Str}{elt:Expr}{ifs:List Expr}{scope:Scope}{cl:List (Str×Addr)}{g:List Str}{Q:AV→St→Prop}{cnm':List Str}{cel':List (Option AV)}(k:Nat)(p:Int→Bool)(f:Int→AV)(hl:l.length≤100000)(hc:cnm.take k=cnm')(hc2:cel.take k=cel')(O:CompOK env scope cl x cnm' g)
  (ht: ∀C,∀n∈l,B8o S d (compEnvC scope cl C env) (St.mk tr dk nw rl tb C [x] [some (.int n)] [] cfid cnm' cel' g) ifs (p n)) (he: ∀C,∀n∈l,p n=true→B1k S d (compEnvC scope cl C env) (St.mk tr dk nw rl tb C [x] [some (.int n)] [] cfid cnm' cel' g) elt (f n))
  (h:Q (.lst ((l.filter p).map f)) (St.mk (tr) dk nw rl tb fid nam loc tmp cfid cnm cel glb)):C8y S d env scope cl x ifs elt g (.lst (l.map .int)) (St.mk (tr) dk nw rl tb fid nam loc tmp cfid cnm cel glb) Q:=B8b D3f (fun _=>rfl) k p f hl hc hc2 O ht he h
theorem C3r{α:Type}{p:α→Prop}: ∀x∈([]:List α),p x:=fun _ h=>nomatch h
theorem B2k{α:Type}{p:α→Prop}{a:α}(h:p a): ∀x∈ [a],p x:=fun x hx=>by rw [List.mem_singleton.mp hx];exact h
theorem D1k{α:Type}{p:α→Prop}{a b:α}(h:p a)(h2:p b): ∀x∈ [a,b],p x:=fun x hx=>by
 rcases List.mem_cons.mp hx with rfl|hx
 ·exact h
 ·rw [List.mem_singleton.mp hx];exact h2
theorem B7i{value slice:Expr}{b:AV}{l:List AV}{i:Int}{Q:AV→St→Prop}(h0:0≤i)(hi:i<2 ^ 62)(hb:l[i.toNat]? =some b)(hsl: ∀o i,subscripted slice false o i=operate [o,i] (getItem o i))(h:Q b (St.mk (tr) dk nw rl tb fid nam loc tmp cfid cnm cel glb)):
  W1 S d r env (R2 S) (RV S) (fun v:Value×Value=>subscriptTail value slice v.1 v.2) (.tup l,.int i) (St.mk (tr) dk nw rl tb fid nam loc tmp cfid cnm cel glb) Q X:=D4s h0 hi hb hsl h
section
structure EK (S:SP):Prop extends EX S where
 kp:keepIn S.K (.ref S.CL)=true
 rg: ∀f∈(["rows","columns"]:List Str),A9v S.K S.CR f=true
 rs: ∀f∈(["rows","columns"]:List Str),B2l S.K S.CR f=true
variable {P P':Key→Prop} {z z':Gh} {y:Gy} {Φ Φ':Key→Addr} {s s':Shared}
theorem B2f{f k:Nat}{a c:Int}(h0:σ.rl=some (f,k,a,c)):σ.obj S (.rl f)=some (.inst S.CR (.rlD f))∧σ.obj S (.rlD f)=some (.ns ((D3o a c).take k)):=by simp [St.obj,h0]
theorem D5g(E:EK S){f k:Nat}{a c:Int}{nm:Str}{v:AV}{Q:Unit→St→Prop}(h0:σ.rl=some (f,k,a,c))(hw:nm∈(["rows","columns"]:List Str))(hp:A8m nm v ((D3o a c).take k)=(D3o a c).take (k+1))
  (h:Q () {σ with rl:=some (f,k+1,a,c)}):W1 S d r env (R2 S) RU (fun v:Value×Value=>setAttr v.1 nm v.2) (.ref (.rl f),v) σ Q X:=fun A P z y Φ s v hA hs hv2=>by
 obtain ⟨v1,v2⟩:=v
 refine A0f (A1s hv2.1) fun _ e1=>?_
 have e1:v1= .ref (Φ (.rl f)):=e1
 subst e1
 refine C1s (σ':={σ with rl:=some (f,k+1,a,c)}) hs (B2f h0).1 (B2f h0).2 (E.rs nm hw) hv2.2 (by rw [List.length_take];exact Nat.le_trans (Nat.min_le_right _ _) (by show(2:Nat)≤50;exact Nat.le_of_ble_eq_true rfl)) (fun j hj=>?_) (by
   simp only [St.obj,Option.bind_some,if_true];rw [hp]) fun s' hc hl=>
  Res.of (b:=()) ⟨hc,hs.ok,hs.eok,⟨hs.pin.tmp,hs.pin.win,hs.pin.kid,hs.pin.tree,hs.pin.wdic,hs.pin.deck⟩,hs.fid,hs.loc,fun f hf=>hl _ (hs.top f hf),hs.cel,hs.ll,hs.lc⟩ trivial h
 cases j with
 |rl m=>simp only [St.obj,h0,Option.bind_some]
 |rlD m=>
  have q:m≠f:=fun e=>hj (by exact congrArg _ (e))
  simp only [St.obj,h0,Option.bind_some,if_neg q]
 |_=>rfl
theorem D2w(E:EK S){a c i:Int}{nm:Str}{ex:Bool}{Q:AV→St→Prop}(hi:(nm= "rows"∧i=a)∨(nm= "columns"∧i=c))(h:Q (.int i) σ):W1 S d r env (RV S) (RV S) (fun v=>getAttr v nm ex) (.rul a c) σ Q X:=fun A P z y Φ s v hA hs hv=>by
 obtain ⟨b,dd,es,n,t1,t2,rfl,hz,hd,g1,g2⟩:=(by exact hv: ∃b d es n t1 t2,v= .ref b∧z b=some (instObj S.CR d)∧z d=some (dictOf es n)∧getL "rows" es=some (some (.int a t1))∧getL "columns" es=some (some (.int c t2)))
 have hf:=E.rg nm (by rcases hi with⟨rfl,_⟩| ⟨rfl,_⟩ <;> decide)
 simp [A9v,Bool.and_eq_true,beq_iff_eq]at hf
 refine A0f hf fun y9a f3=>?_
 try clear hf
 obtain ⟨f1,f2⟩:=y9a
 obtain ⟨t,g⟩: ∃t,getL nm es=some (some (.int i t)):=by rcases hi with⟨rfl,rfl⟩| ⟨rfl,rfl⟩;exact⟨_,g1⟩;exact⟨_,g2⟩
 have hv:A1i S P z Φ (.int i) (.int i t):=B5f
 exact get_value hs.kin ⟨hs.core.zin _ _ hz,rfl,rfl,hs.core.zin _ _ hd⟩ (plainGet_of f1).1 (findObj_own f2 f3 rfl (show lookIn nm (dictOf es n)=some (some (.int i t)) from g)) (B9s (by simp) hv) (Res.of (b:= .int i) (hs.tok _) hv h)
theorem D1p{a c:Int}{fI:Addr}{Q:AV→St→Prop}(hmk:makesIn S.K S.CR=true)(hi:findIn S.K (.ref S.CR) "__init__"=some (some (.ref fI)))(hf:isFn S.K (.ref fI)=true)(h0:σ.rl=none)
  (h: ∀f,WC S d r env fI [.ref (.rl f),.int a,.int c] {σ with rl:=some (f,0,a,c)} (fun b σ'=>b= .none∧σ'.rl=some (f,2,a,c)∧Q (.rul a c) {σ' with rl:=none}) fun _=>False):
  WC S (d+1) r env S.CR [.int a,.int c] σ Q X:=fun A P z y Φ s vs hA hs hv=>by
 have kin:=hs.kin
 obtain ⟨hh,g,dr,tk,os⟩:=s
 have n0:hh.get? hh.objs.size=none:=A0y hh
 have n1:hh.get? (hh.objs.size+1)=none:=B3y hh
 have pfn: ¬Pf P (hh.objs.size+1):=hs.nopf n1
 have p1: ¬P (.rlD (hh.objs.size+1)):=fun h=>pfn (.inr (.inr (.inr (.inr h))))
 have p2: ¬P (.rl (hh.objs.size+1)):=fun h=>pfn (.inr (.inr (.inr (.inl h))))
 have hm:=makes_of (M:=model S.prog S.w) kin hmk
 have k1: ∀a o,hh.get? a=some o→(hh.push emptyDict).get? a=some o:=fun _ _ e=>Heap.get?_push_of_some _ e
 have k2: ∀a o,(hh.push emptyDict).get? a=some o→((hh.push emptyDict).push (instObj S.CR hh.objs.size)).get? a=some o:=fun _ _ e=>Heap.get?_push_of_some _ e
 have sz:(hh.push emptyDict).objs.size=hh.objs.size+1:=Heap.size_push _ _
 generalize hff:hh.objs.size+1=f at n1 pfn p1 p2 sz
 obtain ⟨c1,x1⟩:=hs.core.alloc (ob':=fun j=>if j= .rlD f then some (.ns [])else σ.obj S j) (hh.push emptyDict) tk dr k1 (b:=hh.objs.size) (q:= .rlD f) (o:= .ns []) n0 p1
  ⟨[],0,Heap.get?_push_size _ rfl,rfl⟩ (fun j hj=>if_neg hj) (if_pos rfl)
 have obj2: ∀j,j≠ .rl f→({σ with rl:=some (f,0,a,c)}:St).obj S j=if j= .rlD f then some (.ns [])else σ.obj S j:=fun j hj=>by
  cases j with
  |rlD m=>
   by_cases q:m=f
   ·subst q;refine Eq.trans ?_ (if_pos rfl).symm;simp [St.obj]
   ·refine Eq.trans ?_ (if_neg (by simpa using q)).symm;simp [St.obj,h0,q]
  |rl m=>
   have q:m≠f:=fun e=>hj (by exact congrArg _ (e))
   rw [if_neg (k9 rfl)];simp [St.obj,h0,q]
  |_=>refine Eq.trans ?_ (if_neg (k9 rfl)).symm;rfl
 have i2:((hh.push emptyDict).push (instObj S.CR hh.objs.size)).get? f=some (instObj S.CR hh.objs.size):=by refine(congrArg _ (sz).symm).trans ?_;exact Heap.get?_push_size _ rfl
 obtain ⟨c2,x2⟩:=c1.alloc (ob':=({σ with rl:=some (f,0,a,c)}:St).obj S) ((hh.push emptyDict).push (instObj S.CR hh.objs.size)) tk dr k2 (b:=f) (q:= .rl f) (o:= .inst S.CR (.rlD f))
  (by refine(congrArg _ (sz).symm).trans ?_;exact A0y _) (fun h=>h.elim p2 (k9 rfl)) ⟨by
   dsimp only;rw [if_neg (k9 rfl),if_pos rfl];exact i2,.inl (.inr rfl)⟩ obj2 (by simp [St.obj])
 have pin:PInv {σ with rl:=some (f,0,a,c)} (fun j=>(P j∨j= .rlD f)∨j= .rl f):=by
  have old: ∀j,(P j∨j= .rlD f)∨j= .rl f→j≠ .rlD f→j≠ .rl f→P j:=fun j h h1 h2=>h.elim (fun h=>h.elim id fun h=>absurd h h1) fun h=>absurd h h2
  exact⟨fun k h=>hs.pin.tmp k (old _ h (k9 rfl) (k9 rfl)),fun m h=>hs.pin.win m (h.imp (fun h=>old _ h (k9 rfl) (k9 rfl)) fun h=>old _ h (k9 rfl) (k9 rfl)),fun m v h=>hs.pin.kid m v (old _ h (k9 rfl) (k9 rfl)),fun h=>hs.pin.tree (h.imp (fun h=>old _ h (k9 rfl) (k9 rfl)) fun h=>old _ h (k9 rfl) (k9 rfl)),fun h=>hs.pin.wdic (old _ h (k9 rfl) (k9 rfl)),fun h=>hs.pin.deck (old _ h (k9 rfl) (k9 rfl))⟩
 have yf:y f=none:=(hs.off (a:=f) n1).2.1
 have fr: ∀f',Pf (fun j=>(P j∨j= .rlD f)∨j= .rl f) f'→Pf P f'∨(y f'=none∧ ∃o,((hh.push emptyDict).push (instObj S.CR hh.objs.size)).get? f'=some o):=fun f' h=>by
  rcases h with h| ⟨k,h⟩| ⟨k,h⟩|h|h <;> rcases h with(h|h)|h <;> first| (cases h;done)|skip
  ·exact .inl (.inl h)
  ·exact .inl (.inr (.inl ⟨k,h⟩))
  ·exact .inl (.inr (.inr (.inl ⟨k,h⟩)))
  ·exact .inl (.inr (.inr (.inr (.inl h))))
  ·cases h;exact .inr ⟨yf,_,i2⟩
  ·exact .inl (.inr (.inr (.inr (.inr h))))
  ·cases h;exact .inr ⟨yf,_,i2⟩
 obtain ⟨xe,hs'⟩:=hs.addkeys (x1.trans x2) c2 ⟨rfl,rfl,rfl,rfl,rfl,rfl,rfl⟩ pin fr (fun f k h=>by rcases h with(h|h)|h <;> first|exact .inl h|contradiction) (fun f ⟨o,e⟩=>⟨o,k2 _ _ (k1 _ _ e)⟩)
 have eΦ:(if Key.rl f= .rl f then f else if Key.rl f= .rlD f then hh.objs.size else Φ (.rl f))=f:=if_pos rfl
 refine make_core hm (looks_findIn kin hi) (fun self=>bind_fn kin self (beq_iff_eq.mp hf)) (.inl rfl) ?_
 show codeAny _ _ (.call (.ref fI) ⟨.ref (hh.objs.size+1)::vs,[]⟩) _ _
 rw [hff]
 refine codeAny_mono (h f _ _ _ y _ _ (.ref f::vs) hA.under_tc hs' (A0c.cons ?_ (A0c.mono (x1.trans x2) _ _ hv))) fun rr s' hr=>?_
 ·have:=C4e (S:=S) (P:=fun j=>(P j∨j= .rlD f)∨j= .rl f) (z:=z) (Φ:=fun j=>if j= .rl f then f else if j= .rlD f then hh.objs.size else Φ j) (k:= .rl f) (.inr rfl)
  rw [eΦ]at this;exact this
 ·cases rr with
  |error e=>exact D0e (show A9p S env _ _ y _ _ e s' from hr)
  |ok fl=>
   cases fl with
   |ret v=>
    refine Res.el (hr:Res S env (RV S) _ _ y _ _ v s') fun P' z' Φ' σ' b x hr hs' h9=>?_
    obtain ⟨rfl,hrl,hq⟩:=h9
    refine A0f (hs'.core.rep _ _ (B2f hrl).1) fun q1 q2=>A3w (hs'.core.rep _ _ (B2f hrl).2) fun es n q3 q4=>A0e (B0w (f:= "rows") (a:= .int a) q4 (by rfl)) fun u1 g1 w1=>A0e (B0w (f:= "columns") (a:= .int c) q4 (by rfl)) fun u2 g2 w2=>?_
    obtain ⟨t1,rfl⟩:=A0r w1;obtain ⟨t2,rfl⟩:=A0r w2
    obtain ⟨d1,y1⟩:=hs'.core.freeze (ob':=fun j=>if j= .rlD f then none else σ'.obj S j) (B2f hrl).2 q3 (fun j o e=>by
     by_cases w:j= .rlD f
     ·rw [if_pos w]at e;exact k13 e rfl
     ·rw [if_neg w]at e;exact⟨e,w⟩)
    obtain ⟨d2,y2⟩:=d1.freeze (ob':=({σ' with rl:=none}:St).obj S) (q:= .rl f) (o₀:= .inst S.CR (.rlD f)) (by refine(if_neg (k9 rfl)).trans ?_;exact(B2f hrl).1) q1 (fun j o e=>by
     cases j with
     |rl m=>exact k13 e rfl
     |rlD m=>exact k13 e rfl
     |_=>rw [if_neg (k9 rfl)];exact⟨e,by exact k9 rfl⟩)
    have efv:Φ' (.rl f)=f:=(x.f _ (.inr rfl)).trans eΦ
    rw [efv]at d2 y2 q1
    refine A8b (A7z hr) (C5o P' _ Φ' ({σ' with rl:=none}) (.rul a c) (xe.trans (x.trans ⟨y1.trans y2,fun _ _ _ h=> .inl h,fun _ h=> .inl h⟩)) ?_ ⟨d2,hs'.ok,hs'.eok,⟨hs'.pin.tmp,hs'.pin.win,hs'.pin.kid,hs'.pin.tree,hs'.pin.wdic,hs'.pin.deck⟩,hs'.fid,hs'.loc,hs'.top,hs'.cel,hs'.ll,hs'.lc⟩ hq)
    have hne:Φ' (.rlD f)≠f:=fun w=>by
     have:=hs'.core.inj (.rlD f) (.rl f) _ _ (B2f hrl).2 (B2f hrl).1 (w.trans efv.symm)
     contradiction
    exact D5f (if_pos rfl) ((if_neg hne).trans (if_pos rfl)) g1 g2
   |_=>exact(hr:False).elim
theorem D2g(E:EK S){a c:Int}{ex:Bool}{Q:AV→St→Prop}(h:Q (.int a) σ):W1 S d r env (RV S) (RV S) (fun v=>getAttr v (Str.ofString "rows") ex) (.rul a c) σ Q X:=D2w E (.inl ⟨rfl,rfl⟩) h
theorem B9n(E:EK S){a c:Int}{ex:Bool}{Q:AV→St→Prop}(h:Q (.int c) σ):W1 S d r env (RV S) (RV S) (fun v=>getAttr v (Str.ofString "columns") ex) (.rul a c) σ Q X:=D2w E (.inr ⟨rfl,rfl⟩) h
theorem B7a(G:PG S){fp pos:Pos}{e:Expr}{rest:List Expr}{Q:AV→St→Prop}(hx:Str.ofString "Rules"∈σ.glb)(he:starEach (e::rest) env=(false,eval e env)::starEach rest env)(hplain:(backTo pos (starEach rest env)).any (·.1)=false)(h:W S d r env (RL S) (spliced (backTo pos (starEach (e::rest) env))) σ (fun as σ₁=>WC S d r env S.CR as σ₁ Q X) X):W S d r env (RV S) (eval (.Call (.Name (Str.ofString "Rules") fp) (e::rest) [] pos) env) σ Q X:=A1q hx G.k_Rules.1 G.k_Rules.2.1 he hplain h
theorem D3h(E:EK S){f:Nat}{a c:Int}{Q:Unit→St→Prop}(h:Q () (St.mk tr dk nw (some (f,1,a,c)) tb fid nam loc tmp cfid cnm cel glb)):W1 S d r env (R2 S) RU (fun v:Value×Value=>setAttr v.1 (Str.ofString "rows") v.2) (.ref (.rl f),.int a) (St.mk tr dk nw (some (f,0,a,c)) tb fid nam loc tmp cfid cnm cel glb) Q X:=D5g (σ:=(St.mk tr dk nw (some (f,0,a,c)) tb fid nam loc tmp cfid cnm cel glb)) E rfl (.head _) rfl h
theorem C6d(E:EK S){f:Nat}{a c:Int}{Q:Unit→St→Prop}(h:Q () (St.mk tr dk nw (some (f,2,a,c)) tb fid nam loc tmp cfid cnm cel glb)):W1 S d r env (R2 S) RU (fun v:Value×Value=>setAttr v.1 (Str.ofString "columns") v.2) (.ref (.rl f),.int c) (St.mk tr dk nw (some (f,1,a,c)) tb fid nam loc tmp cfid cnm cel glb) Q X:=D5g (σ:=(St.mk tr dk nw (some (f,1,a,c)) tb fid nam loc tmp cfid cnm cel glb)) E rfl (by decide) rfl h
end
section
variable {P P':Key→Prop} {z z':Gh} {y:Gy} {Φ Φ':Key→Addr} {s s':Shared}
open PySem.SeqAt
noncomputable def C3o:AV→Bool
 | .int _=>true
 | .str _=>true
 | .bool _=>true
 |_=>false
theorem C5t{A:Around}{a:AV}{v u:Value}(hf:C3o a=true)(h1:A1i S P z Φ a v)(h2:A1i S P z Φ a u):EqAt A s v u true:=by
 cases a with
 |int i=>
  obtain ⟨t1,rfl⟩:=A0r h1;obtain ⟨t2,rfl⟩:=A0r h2
  have:=EqAt.int_int (A:=A) (s:=s) i t1 i t2;rwa [beq_self_eq_true]at this
 |str x=>
  obtain ⟨t1,rfl⟩:=A9r h1;obtain ⟨t2,rfl⟩:=A9r h2
  have:=EqAt.str_str (A:=A) (s:=s) x t1 x t2;rwa [beq_self_eq_true]at this
 |bool b=>
  simp only [A8d h1,A8d h2];exact EqAt.same _
 |_=>exact k4 hf
theorem B7p{A:Around}{l:List AV}{i1 i2:Array Value}(hf: ∀a∈l,C3o a=true)(r1:A0c S P z Φ l i1.toList)(r2:A0c S P z Φ l i2.toList)(j:Nat)(h1:j<i1.size)(h2:j<i2.size):EqAt A s i1[j] i2[j] true:=by
 have hj:j<l.length:=by have:=r1.size;exact Z10 h1 this
 refine A0e (r1.at j (List.getElem?_eq_getElem hj)) fun v e1 q1=>?_
 refine A0e (r2.at j (List.getElem?_eq_getElem hj)) fun u e2 q2=>?_
 rw [Array.getElem?_toList,Array.getElem?_eq_getElem h1]at e1
 rw [Array.getElem?_toList,Array.getElem?_eq_getElem h2]at e2
 cases e1;cases e2
 exact C5t (hf _ (List.getElem_mem hj)) q1 q2
theorem A7y{l:List AV}{Q:AV→St→Prop}(hf: ∀a∈l,C3o a=true)(h:Q (.bool false) σ):W1 S d r env (R2 S) (RV S) (fun v:Value×Value=>compareOp .NotEq v.1 v.2) (.tup l,.tup l) σ Q X:=fun A P z y Φ s v hA hs hv=>by
 obtain ⟨v1,v2⟩:=v
 refine A3m (A7p hv.1) fun b1 i1 n1 e1 z1 r1=>A3m (A7p hv.2) fun b2 i2 n2 e2 z2 r2=>?_
 dsimp only at e1 e2;subst e1 e2
 have s1:=r1.size;have s2:=r2.size
 refine RcNeAt.tuples (e:=fun _=>true) ⟨_,hs.core.zin _ _ z1,rfl,n1,rfl⟩ ⟨_,hs.core.zin _ _ z2,rfl,n2,rfl⟩ hA.line (fun j h1 h2=>B7p hf r1 r2 j h1 h2) _ _ _ _ ?_
 have e:(!((List.range (min i1.size i2.size)).all (fun _=>true) && i1.size == i2.size))=false:=by rw [s1,s2];simp
 rw [e];exact Res.of (b:= .bool false) hs A7i h
theorem B7c{x u:Str}{l l':List AV}{Q:AV→St→Prop}(hx:x≠u)(hl:l'= [])(h:Q (.bool true) σ):W1 S d r env (R2 S) (RV S) (fun v:Value×Value=>compareOp .NotEq v.1 v.2) (.tup (.str x::l),.tup (.str u::l')) σ Q X:=fun A P z y Φ s v hA hs hv=>by
 subst hl
 obtain ⟨v1,v2⟩:=v
 refine A3m (A7p hv.1) fun b1 i1 n1 e1 z1 r1=>A3m (A7p hv.2) fun b2 i2 n2 e2 z2 r2=>?_
 dsimp only at e1 e2;subst e1 e2
 have s1:=r1.size;have s2:=r2.size
 simp only [List.length_cons,List.length_nil]at s1 s2
 refine RcNeAt.tuples (e:=fun _=>false) ⟨_,hs.core.zin _ _ z1,rfl,n1,rfl⟩ ⟨_,hs.core.zin _ _ z2,rfl,n2,rfl⟩ hA.line (fun j h1 h2=>?_) _ _ _ _ ?_
 ·have:j=0:=by lia
  subst this
  refine A0e (r1.at 0 (by rfl)) fun v q1 q2=>A0e (r2.at 0 (by rfl)) fun w q3 q4=>?_
  rw [Array.getElem?_toList,Array.getElem?_eq_getElem h1]at q1
  rw [Array.getElem?_toList,Array.getElem?_eq_getElem h2]at q3
  injection q1 with q1;injection q3 with q3
  obtain ⟨t1,rfl⟩:=A9r q2;obtain ⟨t2,rfl⟩:=A9r q4
  simp only [q1,q3]
  have:=EqAt.str_str (A:=A.in1) (s:=s) x t1 u t2
  rwa [beq_eq_false_iff_ne.mpr hx]at this
 ·have e:(!((List.range (min i1.size i2.size)).all (fun _=>false) && i1.size == i2.size))=true:=by
   rw [s1,s2,show min (l.length+1) (0+1)=1 by lia];rfl
  rw [e];exact Res.of (b:= .bool true) hs A7i h
theorem B7e{l:List AV}{Q:AV→St→Prop}(hf: ∀a∈l,C3o a=true)(h:Q (.bool false) σ):W1 S d r env (R2 S) (RV S) (fun v:Value×Value=>compareOp .NotEq v.1 v.2) (.lst l,.lst l) σ Q X:=fun A P z y Φ s v hA hs hv=>by
 obtain ⟨v1,v2⟩:=v
 refine A3m (A8h hv.1) fun b1 i1 n1 e1 z1 r1=>A3m (A8h hv.2) fun b2 i2 n2 e2 z2 r2=>?_
 dsimp only at e1 e2;subst e1 e2
 have s1:=r1.size;have s2:=r2.size
 refine RcNeAt.lists (e:=fun _=>true) ⟨_,hs.core.zin _ _ z1,rfl,n1,rfl⟩ ⟨_,hs.core.zin _ _ z2,rfl,n2,rfl⟩ (by exact Z12 s1 s2) hA.line (fun j h1 h2=>B7p hf r1 r2 j h1 h2) _ _ _ _ ?_
 have e:(!(List.range i1.size).all (fun _=>true))=false:=by simp
 rw [e];exact Res.of (b:= .bool false) hs A7i h
theorem C5j{A:Around}{l:List AV}{ks:List Int}{vs us:List Value}(hu:A.units<cLine)(hn:ks.Nodup)(hf: ∀a∈l,∃m,a= .tup m∧ ∀b∈m,C3o b=true)(zin: ∀a o,z a=some o→s.heap.get? a=some o)(h1:A0c S P z Φ l vs)(h2:A0c S P z Φ l us)(e1:ks.length=l.length):
  ∀(ks':List Int) (l':List AV) (vs':List Value),A0c S P z Φ l' vs'→ks'.length=l'.length→(∀k a,(k,a)∈ks'.zip l'→(ks.zip l).lookup k=some a)→KeqHits A s (ks.zip us) (ks'.zip vs') true
 | [],_,vs',_,_,_=>by simp;exact .nil
 |k::ks',[],_,_,hl,_=>by contradiction
 |k::ks',a::l',_,hv,hl,hm=>by
  refine A1x hv.uncons fun v rr y9a hv1 hr=>?_
  obtain rfl:=y9a
  have hlk:=hm k a (.head _)
  obtain ⟨u,q1,q2⟩:=B6b h2 (ks:=ks) (by refine Eq.trans ?_ (h2.len).symm;exact e1) hlk
  have ih:=C5j hu hn hf zin h1 h2 e1 ks' l' rr hr (by simpa using hl) fun k a h=>hm k a (by simp [h])
  have ham:a∈l:=by
   have: ∀(ks:List Int) (l:List AV),(ks.zip l).lookup k=some a→a∈l:=by
    intro ks
    induction ks with
    |nil=>intro l h;exact k1 h
    |cons b ks ih=>
     intro l h
     cases l with
     |nil=>exact k1 h
     |cons c l=>
      simp only [List.zip_cons_cons,List.lookup_cons]at h
      split at h
      ·cases h;exact .head _
      ·exact .tail _ (ih l h)
   exact this ks l hlk
  refine A0e (hf a ham) fun m y9a hfm=>?_
  obtain rfl:=y9a
  have heq:EqAt A s v u true:=by
   refine A3m (A7p hv1) fun b1 i1 n1 y9a z1 r1=>?_
   obtain rfl:=y9a
   refine A3m (A7p q2) fun b2 i2 n2 y9a z2 r2=>?_
   obtain rfl:=y9a
   by_cases hb:b1=b2
   ·subst hb;exact EqAt.same _
   ·have s1:=r1.size;have s2:=r2.size
    have:=RcAt.tuples (e:=fun _=>true) (A:=A) (s:=s) ⟨_,zin _ _ z1,rfl,n1,rfl⟩ ⟨_,zin _ _ z2,rfl,n2,rfl⟩ hu (fun j h1 h2=>B7p hfm r1 r2 j h1 h2)
    have e:((List.range (min i1.size i2.size)).all (fun _=>true) && i1.size == i2.size)=true:=by rw [s1,s2];simp
    rw [e]at this
    exact EqAt.of_refs hb this
  exact KeqHits.hit (e:=true) (b:=true) q1 heq ih
theorem B7g{l:List AV}{ks:List Int}{Q:AV→St→Prop}(hn:ks.Nodup)(hl:ks.length=l.length)(hf: ∀a∈l,∃m,a= .tup m∧ ∀b∈m,C3o b=true)(h:Q (.bool true) σ):W1 S d r env (R2 S) (RV S) (fun v:Value×Value=>compareOp .Eq v.1 v.2) (.dic ks l,.dic ks l) σ Q X:=fun A P z y Φ s v hA hs hv=>by
 obtain ⟨v1,v2⟩:=v
 have hv1:=hv.1;have hv2:=hv.2
 replace hv1:=B1b hv1;replace hv2:=B1b hv2
 refine B4q hv1 fun c1 o1 vs1 e1 n1 z1 d1 k1 l1=>?_
 try clear hv1
 refine B4q hv2 fun c2 o2 vs2 e2 n2 z2 d2 k2 l2=>?_
 try clear hv2
 subst e1 e2
 have g1:s.heap.DictOf (intKind S.prog S.w) c1 (ks.zip vs1):=Heap.dictOf_iff.mpr ⟨o1,hs.core.zin _ _ z1,d1⟩
 have g2:s.heap.DictOf (intKind S.prog S.w) c2 (ks.zip vs2):=Heap.dictOf_iff.mpr ⟨o2,hs.core.zin _ _ z2,d2⟩
 have lk: ∀(ks:List Int) (l:List AV),ks.Nodup→ ∀k a,(k,a)∈ks.zip l→(ks.zip l).lookup k=some a:=by
  intro ks
  induction ks with
  |nil=>intro l _ k a h;exact k3 h
  |cons b ks ih=>
   intro l hnd k a h
   cases l with
   |nil=>exact k3 h
   |cons c l=>
    simp only [List.zip_cons_cons]at h ⊢
    simp only [List.lookup_cons]
    rcases List.mem_cons.mp h with e|h
    ·cases e;simp
    ·have hk:k∈ks:=(List.of_mem_zip h).1
     have hne:(k == b)=false:=by
      have:=(List.nodup_cons.mp hnd).1
      simp only [beq_eq_false_iff_ne];intro e;exact this (e▸hk)
     rw [hne];exact ih l (List.nodup_cons.mp hnd).2 k a h
 refine keq_eq (r:=true) (by simpa using n1) (by simpa using n2) g1 g2 hA.line (fun _=>C5j (by have:=hA.uni;show A.units+1<9900;lia) hn hf hs.core.zin l1 l2 hl ks l vs1 l1 hl (lk ks l hn)) ?_
 have e:((ks.zip vs1).length == (ks.zip vs2).length && true)=true:=by simp only [List.length_zip,List.length_zip,←k1,←k2];simp
 rw [e];exact Res.of (b:= .bool true) hs A7i h
theorem B2z: ∀{l:List Int} {vs:List Value},A0c S P z Φ (l.map .int) vs→IntsAre vs l
 | [],vs,h=>by obtain rfl:=A4z h;exact .nil
 |n::l,vs,h=>by
  refine A1x (A0c.uncons h) fun v rr y9a hv hr=>?_
  obtain rfl:=y9a
  refine A0i (A0r hv) fun t y9a=>?_
  obtain rfl:=y9a
  exact .cons n t (B2z hr)
theorem B3i{l:List Int}{vs:List Value}(h:IntsAre vs l):A0c S P z Φ (l.map .int) vs:=by
 induction h with
 |nil=>exact A0c.nil
 |cons n t h ih=>exact A0c.cons B5f ih
theorem B6d{l:List AV}{its:Array Value}{n:Nat}{D:Addr}{h':Heap}{tk:Nat}{Q:AV→St→Prop}(hs:Sim S env σ P z y Φ s)(k: ∀a o,s.heap.get? a=some o→h'.get? a=some o)(hD:s.heap.get? D=none)(e:h'.get? D=some ⟨.type "list",none,.seq its n,#[]⟩)(hl:A0c S P z Φ l its.toList)(h:Q (.lst l) σ):
  Res S env (RV S) P z y Φ Q (.ref D) {s with heap:=h',toks:=tk}:=by
 refine A0f (hs.core.freezeNew h' tk s.drawn k hD e) fun cc xx=>?_
 exact Res.intro (b:= .lst l) (z':=fun a=>if a=D then some ⟨.type "list",none,.seq its n,#[]⟩else z a) ⟨xx,fun _ _ _ h=> .inl h,fun _ h=> .inl h⟩ (C6l (if_pos rfl) (A0c.mono xx _ _ hl))
  ⟨cc,hs.ok,hs.eok,hs.pin,hs.fid,hs.loc,fun f hf=>let ⟨o,e⟩:=hs.top f hf;⟨o,k _ _ e⟩,hs.cel,hs.ll,hs.lc⟩ h
theorem b_sorted{a:AV}{l:List Int}{Q:AV→St→Prop}(hl:LA S σ a (l.map .int))(hb:l.length<64)(h: ∀l':List Int,l'.Perm l→l'.Pairwise (·≤·)→Q (.lst (l'.map .int)) σ):WB S d r env (.builtin "sorted") [a] σ Q X:=fun A P z y Φ s vs hA hs hv=>by
 refine A1x hv.uncons fun v rr y9a hv1 hr=>?_
 obtain rfl:=y9a
 have:rr= []:=hr
 subst this
 refine A3m (hl.at hs hv1) fun c its n y9a g1 g2=>?_
 obtain rfl:=y9a
 have z1:=g2.size
 refine sorted_ints (ns:=l) (vs:=its.toList) ⟨_,g1,rfl,n,by rfl⟩ (B2z g2) (by simp only [Array.length_toList,z1,List.length_map];exact hb) fun out ns' i1 i2 i3=>A0i (sortedAll_at s.heap its.toList out) fun e he=>?_
 exact B6d (tk:=s.toks) hs (fun _ _=>sortedAll_old) (B3y _) he (B3i i1) (h ns' i2 i3)
theorem C7v{prog:Program}{w:World}{kvs:List (Int×Value)}{vs:List Value}(hl:vs.length=kvs.length)(h: ∀(j:Nat) (v:Value),vs[j]? =some v→ ∃k x,kvs[j]? =some (k,x)∧(intKind prog w).is k v=true):IntsAre vs (kvs.map (·.1)):=by
 induction kvs generalizing vs with
 |nil=>obtain rfl:=List.eq_nil_of_length_eq_zero hl;exact .nil
 |cons p kvs ih=>
  cases vs with
  |nil=>contradiction
  |cons v vs=>
  refine A3w (h 0 v rfl) fun k' x' e1 e2=>?_
  obtain rfl:=Option.some.inj e1
  refine A0i (Value.isInt_shape e2) fun t y9a=>?_
  subst y9a
  exact .cons k' t (ih (Nat.succ.inj hl) fun j v e=>h (j+1) v e)
theorem C0q{prog:Program}{w:World}{A:Around}{E:Value→Shared→Prop}{c:Addr}{kvs:List (Int×Value)}{Q:Value→Shared→Prop}(lo:(c == sysModules)=false)(hh:A.handled=none)(hd:s.heap.DictOf (intKind prog w) c kvs)(hn:kvs.length<64)
  (h: ∀h' tk D out e ns',(∀b o,s.heap.get? b=some o→h'.get? b=some o)→s.heap.get? D=none→h'.get? D=some (seqObj "list" out e)→IntsAre out.toList ns'→ns'.Perm (kvs.map (·.1))→ns'.Pairwise (·≤·)→Q (.ref D) {s with heap:=h',toks:=tk}):
  wpAny (model prog w) A (call (.builtin "sorted") [.ref c]) Q E s:=by
 refine A0i hd.dictAt fun ep hat=>call_function_entry kind_sorted plain_sorted entry_sorted (args_sorted1 _) ?_
 unfold Builtin.«sorted»
 refine wpAny_bind (m:=checkCount "sorted" 1 1 _) (wpAny_pure ?_)
 refine wpAny_bind (kdu_collect (A:=A.in1) (kdl_dict (knd:=intKind prog w) (kvs:=kvs) (ep:=ep) lo) hh hat (by simp only [sizeLine_eq];exact Z14 hn) fun h' tk acc hk hacc=>?_)
 have hl:acc.toList.length=kvs.length:=by simp only [Array.length_toList];exact hacc.1
 refine wpAny_bind (wpAny_newList ?_ (by simp only [hl,sizeLine_eq];exact Z14 hn))
 have hoL:(h'.push (seqObj "list" acc.toList.toArray 0)).get? h'.objs.size=some (seqObj "list" acc.toList.toArray 0):=Heap.get?_push_size _ rfl
 have hI:IntsAre acc.toList (kvs.map (·.1)):=C7v (prog:=prog) (w:=w) hl fun j v e=>hacc.2 j v (by refine(Array.getElem?_toList).symm.trans ?_;exact e)
 have hdN:s.heap.get? h'.objs.size=none:=by
  cases q:s.heap.get? h'.objs.size with
  |none=>rfl
  |some o=>have:=hk _ _ q;rw [A0y]at this;exact k1 this
 show wpAny _ _ _ _ _ {s with heap:=h'.push (seqObj "list" acc.toList.toArray 0),toks:=tk}
 refine wpAny_bind (wpAny_holding (wpAny_call_entry slot_list_sort ⟨_,hoL,rfl⟩ entry_list_sort (list_sort_tree hoL hI (by rw [hl];exact hn) fun out ns' a1 a2 a3=>⟨_,rfl,?_⟩) (args_list_sort _)))
 refine A0i (sortedHeap_at (out:=out) hoL) fun e he=>wpAny_pure ⟨_,rfl,h _ tk h'.objs.size out e ns' (fun b o q=>?_) hdN he a1 a2 a3⟩
 have q':=hk _ _ q
 rw [sortedHeap_old (Nat.ne_of_lt (Heap.lt_size q')) (by simp only [size_push'];exact Nat.lt_succ_of_lt (Heap.lt_size q'))]
 exact Heap.get?_push_of_some _ q'
theorem B8l{t:Tree}{Q:AV→St→Prop}(h1:σ.tr=some t)(hS:1≤t.stg)(hb:t.wins.length<64)(h: ∀l':List Int,l'.Perm (t.wins.map (·.1))→l'.Pairwise (·≤·)→Q (.lst (l'.map .int)) σ):WB S d r env (.builtin "sorted") [.ref .wdic] σ Q X:=fun A P z y Φ s vs hA hs hv=>by
 refine A1x hv.uncons fun v rr y9a hv1 hr=>?_
 obtain rfl:=y9a
 have:rr= []:=hr
 subst this
 refine A0f (A1s hv1) fun _ y9a=>?_
 obtain rfl:=y9a
 refine A6d (hs.core.rep _ _ (A7d h1 hS)) fun vs g0 g1 g2 g3=>?_
 have hlen:((t.wins.map (·.1)).zip vs).length=t.wins.length:=by simp only [List.length_zip,←g2,List.length_map,Nat.min_self]
 refine C0q (by simpa using g0) hA.h g1 (by rw [hlen];exact hb) fun h' tk D out e ns' k hD he i1 i2 i3=>B6d (tk:=tk) hs k hD he (B3i i1) (h ns' ?_ i3)
 rw [List.map_fst_zip (by simp only [←g2];exact Nat.le_refl _)]at i2
 exact i2
theorem C4y: ∀{l l':List Int},l.Perm l'→l.Pairwise (·≤·)→l'.Pairwise (·≤·)→l=l'
 | [],l',p,_,_=>by simpa using p.symm
 |a::l,[],p,_,_=>by simpa using p
 |a::l,b::l',p,h1,h2=>by
  have ha:=List.pairwise_cons.mp h1
  have hb:=List.pairwise_cons.mp h2
  have e:a=b:=by
   have m1:a∈b::l':=p.mem_iff.mp (.head _)
   have m2:b∈a::l:=p.mem_iff.mpr (.head _)
   rcases List.mem_cons.mp m1 with q|q
   ·exact q
   ·rcases List.mem_cons.mp m2 with q2|q2
    ·exact q2.symm
    ·have:=hb.1 a q;have:=ha.1 b q2;lia
  subst e
  exact congrArg _ (C4y (List.Perm.cons_inv p) ha.2 hb.2)
end
section
variable {P P':Key→Prop} {z z':Gh} {y:Gy} {Φ Φ':Key→Addr} {s s':Shared}
theorem B3j(G:PG S){x:Str}{xp fp cp pos:Pos}{e:Expr}{body:List Stmt}{Q:AF→St→Prop}(hx:Str.ofString "range"∈σ.glb)(he:starEach [e] env= [(false,eval e env)])(hfs: ∀v,foldedSetIterable (.Call (.Name (Str.ofString "range") fp) [e] [] cp) env v=pure v)
  (h:W S d r env (RL S) (spliced (backTo cp (starEach [e] env))) σ (fun as σ₁=> ∃n:Nat,as= [.int n]∧n≤1000∧C3t S d r env x body Q ((List.range n).map fun(i:Nat)=> .int i) σ₁) X):
  W S d r env (RF S) (exec (.For (.Name x xp) (.Call (.Name (Str.ofString "range") fp) [e] [] cp) body [] pos) env) σ Q X:=fun A P z y Φ s hA hs=>by
 refine wpAny_For (wpAny_Call_Name_kw (B8j hs hx G.b_range.1 G.b_range.2 ?_)) hfs
 show wpAny _ A (callWith cp (.type "range") [] (backTo cp (starEach [e] env)) []) _ _ s
 have hb':backTo cp (starEach [e] env)=(false,eval e env)::backTo cp (starEach [] env):=by refine(congrArg _ (he)).trans ?_;rfl
 have h':=h A P z y Φ s hA hs
 rw [hb']at h' ⊢
 refine callWith_of (P:=fun _=>True) rfl (fun h _=>⟨.machine,.inr (.inl rfl),Looks.of_pure rfl⟩) (evalArgs_plain (wpAny_mono h' (fun vs s₁ h₁=>?_) fun _ _ e=>e))
 refine D0w h₁ fun P₁ z₁ Φ₁ σ₁ as x₁ r₁ hs₁ y9a=>?_
 try clear h₁
 refine A2u y9a fun n y9b hn hq=>?_
 obtain rfl:=y9b
 refine A1x (A0c.uncons r₁) fun v rr y9a hv1 hr=>?_
 obtain rfl:=y9a
 have:rr= []:=hr
 subst this
 refine A0i (A0r hv1) fun tk y9a=>?_
 obtain rfl:=y9a
 refine⟨trivial,call_range_1 ?_⟩
 have hz:Builtin.Range.rangeSize 0 (n:Int) 1=(n:Int):=by rw [rangeSize_one];split <;> lia
 refine wpAny_pyIter_range (a:=0) (b:=n) (c:=1) (Heap.get?_push_size _ rfl) (small_one (by decide) (by decide) (by lia) (by lia)) ?_
 rw [hz]
 generalize hH:s₁.heap.push {cls:= .type "range",data:= .fields #[.int 0 s₁.toks,.int n tk,.int 1 (s₁.toks+1)]}=H
 have sz:H.objs.size=s₁.heap.objs.size+1:=by rw [←hH];exact Heap.size_push _ _
 have k1: ∀a o,s₁.heap.get? a=some o→H.get? a=some o:=fun a o e=>by rw [←hH];exact Heap.get?_push_of_some _ e
 have nI:s₁.heap.get? H.objs.size=none:=by refine(congrArg _ (sz)).trans ?_;exact B3y _
 have hs₂:=hs₁.grow (H.push {cls:= .type "range_iterator",data:= .fields #[rawInt 0,rawInt n,rawInt 1]}) (s₁.toks+1+1) s₁.drawn (fun a o e=>Heap.get?_push_of_some _ (k1 a o e))
 refine B3b hA (Walks.range (prog:=S.prog) (w:=S.w) hA.h H.objs.size 0 1 n) (l:=(List.range n).map fun(i:Nat)=> .int i) ?_ (by simp) ?_ hs₂ (hs₁.off nI) (hs₁.nopf nI) ?_ hq (fun f s' hr=>Res.ext x₁ hr) fun i h e=>⟨_,e⟩
 ·intro c hc;rw [List.mem_singleton.mp hc];exact .inl rfl
 ·intro i v a hv ha
  refine A0i hv fun t y9a=>?_
  try clear hv
  obtain rfl:=y9a
  rw [List.getElem?_map]at ha
  cases hi:(List.range n)[i]? with
  |none=>rw [hi]at ha;exact k13 ha rfl
  |some j=>
   rw [hi]at ha
   cases ha
   have:j=i:=by have:=List.getElem?_eq_some_iff.mp hi;obtain ⟨h1,h2⟩:=this;simpa using h2.symm
   subst this
   rw [show(0:Int)+j*1=j by lia]
   exact B5f
 ·show IsRangeIter _ _ _ _ _
  rw [show(0:Int)+ ((0:Nat):Int)*1=0 by exact rfl,show(n:Int)- ((0:Nat):Int)=n by exact rfl]
  exact Heap.get?_push_size _ rfl
theorem B2x{q:List Int×Int}(h:σ.dk=some q):σ.obj S .deck=some (.list [.lst (q.1.map .int),.int q.2]):=by simp [St.obj,h]
theorem A9z{q:Option (List Int×Int)}(j:Key)(h:j≠ .deck):({σ with dk:=q}:St).obj S j=σ.obj S j:=by cases j <;> first|rfl|exact absurd rfl h
theorem Sim.newdeck(hs:Sim S env σ P z y Φ s)(hd:σ.dk=none){xs:List Int}{c:Int}{its:Array Value}(hl:A0c S P z Φ [.lst (xs.map .int),.int c] its.toList):
  ∃P' Φ',Ext env.locals y P z Φ P' z Φ'∧Sim S env {σ with dk:=some (xs,c)} P' z y Φ' {s with heap:=s.heap.push {cls:= .type "list",data:= .seq its}}∧A1i S P' z Φ' (.ref .deck) (.ref s.heap.objs.size):=by
 have hn: ¬P .deck:=fun h=>hs.pin.deck h hd
 have k: ∀a o,s.heap.get? a=some o→(s.heap.push {cls:= .type "list",data:= .seq its}).get? a=some o:=fun _ _ e=>Heap.get?_push_of_some _ e
 have hne: ∀j,P j→j≠ .deck:=fun j hj e=>hn (e▸hj)
 have x0:Ext0 P z Φ (fun j=>P j∨j= .deck) z (fun j=>if j= .deck then s.heap.objs.size else Φ j):=⟨fun _ h=> .inl h,fun _ _ e=>e,fun j hj=>if_neg (hne j hj)⟩
 obtain ⟨cc,x⟩:=hs.core.alloc (ob':=({σ with dk:=some (xs,c)}:St).obj S) (s.heap.push {cls:= .type "list",data:= .seq its}) s.toks s.drawn k (b:=s.heap.objs.size) (q:= .deck) (o:= .list [.lst (xs.map .int),.int c]) (A0y _) hn
  ⟨its,0,Heap.get?_push_size _ rfl,A0c.mono x0 _ _ hl⟩ (fun j hj=>A9z j hj) (B2x (q:=(xs,c)) rfl)
 have fr: ∀f,D1n .deck f→False:=fun f h=>by rcases h with h| ⟨k,h⟩| ⟨k,h⟩|h|h <;> contradiction
 have pin:PInv {σ with dk:=some (xs,c)} (fun j=>P j∨j= .deck):=
  ⟨fun k h=>hs.pin.tmp k (h.resolve_right (k9 rfl)),fun n h=>hs.pin.win n (h.imp (fun h=>h.resolve_right (k9 rfl)) fun h=>h.resolve_right (k9 rfl)),fun n v h=>hs.pin.kid n v (h.resolve_right (k9 rfl)),fun h=>hs.pin.tree (h.imp (fun h=>h.resolve_right (k9 rfl)) fun h=>h.resolve_right (k9 rfl)),fun h=>hs.pin.wdic (h.resolve_right (k9 rfl)),fun h=>by simp⟩
 refine A0f (hs.addkey hn (fun _ _ e=>e) cc ⟨rfl,rfl,rfl,rfl,rfl,rfl,rfl⟩ pin (fun f h=>(fr f h).elim) (fun f k h=>by contradiction) (fun f h=>(fr f h).elim) (fun f ⟨o,e⟩=>⟨o,k _ _ e⟩)) fun xe hs'=>B2o _ _ xe hs' ?_
 have e:(if Key.deck=Key.deck then s.heap.objs.size else Φ .deck)=s.heap.objs.size:=if_pos rfl
 have:=C4e (S:=S) (P:=fun j=>P j∨j= .deck) (z:=z) (Φ:=fun j=>if j= .deck then s.heap.objs.size else Φ j) (k:= .deck) (.inr rfl)
 rw [e]at this;exact this
theorem C4c{x:Str}{p' elts lp pos}{Q:AF→St→Prop}(h:W S d r env (RL S) (spliced (backTo lp (starEach elts env))) σ (fun as σ₁=> ∃xs c,as= [.lst (xs.map .int),.int c]∧σ₁.dk=none∧A9c {σ₁ with dk:=some (xs,c)} x (.ref .deck) (Q .next)) X):
  W S d r env (RF S) (exec (.Assign [.Name x p'] (.List elts lp) pos) env) σ Q X:=fun A P z y Φ s hA hs=>by
 refine wpAny_Assign_Name (List_ (h.run hA hs (fun vs s₁ P₁ z₁ Φ₁ σ₁ as x₁ r₁ hs₁ h₁=>wpAny_newObj_type ?_ (by
  refine A3w h₁ fun xs c y9a _=>?_
  try clear h₁
  obtain rfl:=y9a
  have:=A0c.len r₁;show vs.toArray.size≤sizeLine;simp only [List.size_toArray,sizeLine_eq,this];exact Nat.le_of_ble_eq_true rfl)) fun e s' hx=>hx)) rfl
 refine A1x h₁ fun xs c y9a hd y9b=>?_
 try clear h₁
 refine A0e y9b fun l' hp hq=>?_
 obtain rfl:=y9a
 refine A1x (hs₁.newdeck hd (its:=vs.toArray) (by exact r₁)) fun P₂ Φ₂ x₂ hs₂ hv=>?_
 exact A3b hs₂ hp hv fun s' hs'=>Res.intro (b:= .next) (x₁.trans x₂) A1y hs' hq
theorem A8a{xs:List Int}{c:Int}:LA S (St.mk tr (some (xs,c)) nw rl tb fid nam loc tmp cfid cnm cel glb) (.ref .deck) [.lst (xs.map .int),.int c]:= .inr ⟨_,rfl,by rfl⟩
theorem C9v{xs:List Int}{c c':Int}{Q:Unit→St→Prop}(h:Q () (St.mk tr (some (xs,c')) nw rl tb fid nam loc tmp cfid cnm cel glb)):
  W1 S d r env (R3 S) RU (fun v:Value×Value×Value=>setItem v.1 v.2.1 v.2.2) (.ref .deck,.int 1,.int c') (St.mk tr (some (xs,c)) nw rl tb fid nam loc tmp cfid cnm cel glb) Q X:=fun A P z y Φ s v hA hs hv=>by
 obtain ⟨v1,v2,v3⟩:=v
 refine A0f (A1s hv.1) fun _ e1=>A0i (A0r hv.2.1) fun t2 e2=>?_
 dsimp only at e1 e2;subst e1 e2
 refine A3w (hs.core.rep _ _ (B2x (S:=S) (σ:=(St.mk tr (some (xs,c)) nw rl tb fid nam loc tmp cfid cnm cel glb)) (q:=(xs,c)) rfl)) fun its n g1 g2=>?_
 have z1:its.size=2:=by have:=g2.size;exact this
 refine ki_setAt (n:=n) g1 (by exact(by decide)) (by lia) (by lia) (A0i (B4c (f:=(·.setIfInBounds (1:Int).toNat v3)) (ys:=its.setIfInBounds 1 v3) g1 (by rfl)) fun cc hcc=>?_)
 refine Res.of (b:=()) (hs.setobj (σ':=(St.mk tr (some (xs,c')) nw rl tb fid nam loc tmp cfid cnm cel glb)) (tk:=s.toks) (B2x (S:=S) (σ:=(St.mk tr (some (xs,c)) nw rl tb fid nam loc tmp cfid cnm cel glb)) (q:=(xs,c)) rfl) (o:= .list [.lst (xs.map .int),.int c']) (fun b o hb e=>(Heap.get?_update_other _ _ (Ne.symm hb)).trans e) hcc
  ⟨_,_,hcc,?_⟩ (fun j hj=>by exact((A9z (σ:=(St.mk tr (none) nw rl tb fid nam loc tmp cfid cnm cel glb)) j hj).trans (A9z (σ:=(St.mk tr (none) nw rl tb fid nam loc tmp cfid cnm cel glb)) (q:=some (xs,c)) j hj).symm)) (B2x (q:=(xs,c')) rfl) ⟨rfl,rfl,rfl,rfl,rfl,rfl,rfl⟩ ⟨hs.pin.tmp,hs.pin.win,hs.pin.kid,hs.pin.tree,hs.pin.wdic,fun h=>by simp⟩) trivial h
 simp only [Array.toList_setIfInBounds]
 exact g2.set 1 hv.2.2
theorem D3i{a:AV}{l:List Int}{Q:AV→St→Prop}(hl:LA S σ a (l.map .int))(hne:l≠ [])(h: ∀M,M∈l→(∀k∈l,k≤M)→Q (.int M) σ):WB S d r env (.builtin "max") [a] σ Q X:=fun A P z y Φ s vs hA hs hv=>by
 refine A1x hv.uncons fun v rr y9a hv1 hr=>?_
 obtain rfl:=y9a
 have:rr= []:=hr
 subst this
 refine A3m (hl.at hs hv1) fun c its n y9a g1 g2=>?_
 obtain rfl:=y9a
 have hi:IntsAre its.toList l:=B2z g2
 refine A0i hi.allInts.items fun xs e=>?_
 have hns:l=xs.toList.map (·.1):=by rw [←hi.numsOf,←nums_intItems,←e]
 have hsz:0<xs.size:=by
  have h3:=List.length_pos_iff.mpr hne;rw [hns,List.length_map,Array.length_toList]at h3;exact h3
 have hL:s.heap.IsList c (intItems xs):=by simp only [←e];exact⟨_,g1,rfl,n,by rfl⟩
 refine max_intList hA.h hL hsz fun v h' tk hv hk=>A0i (intItems_at hv) fun t y9a=>?_
 obtain rfl:=y9a
 refine A0f (argBest_gt (numAt xs) (xs.size-1)) fun h1 h2=>Res.of (b:= .int _) (hs.grow h' tk s.drawn hk) B5f (h _ ?_ fun a ha=>?_)
 ·rw [hns,numAt_eq];exact getD_mem (by simp only [List.length_map,Array.length_toList];lia)
 ·rw [hns]at ha
  refine A0e (mem_getD ha) fun j hj y9a=>?_
  obtain rfl:=y9a
  rw [List.length_map,Array.length_toList]at hj
  rw [←numAt_eq];exact h2 j (by lia)
theorem D4a{e₁ e₂:Expr}{rest:List Expr}{pos:Pos}{Q:AV→St→Prop}(h:W S d r env (RV S) (eval e₁ env) σ (fun a σ₁=> ∃b,a= .bool b∧(b=true→W S d r env (RV S) (eval (.BoolOp .And (e₂::rest) pos) env) σ₁ Q X)∧(b=false→Q (.bool false) σ₁)) X):
  W S d r env (RV S) (eval (.BoolOp .And (e₁::e₂::rest) pos) env) σ Q X:=fun A P z y Φ s hA hs=>by
 refine BoolOp_and (h.run hA hs (fun v s₁ P₁ z₁ Φ₁ σ₁ a x₁ r₁ hs₁ h₁=>?_) fun _ _ e=>e)
 refine A2u h₁ fun b y9a h2 h3=>?_
 try clear h₁
 obtain rfl:=y9a
 have e:v= .bool b:=A8d r₁
 subst e
 refine wpAny_truthy_bool ?_
 cases b with
 |true=>
  refine(if_pos rfl).mpr ?_
  exact(h2 rfl).run hA hs₁ (fun v s₂ P₂ z₂ Φ₂ σ₂ c x₂ r₂ hs₂ q=>Res.intro (x₁.trans x₂) r₂ hs₂ q) fun e s' hx=>hx.ext x₁
 |false=>refine(if_neg (by simp)).mpr ?_;exact Res.intro (b:= .bool false) x₁ A7i hs₁ (h3 rfl)
theorem C9r{op:BoolOp}{e:Expr}{pos:Pos}{Q:AV→St→Prop}(h:W S d r env (RV S) (eval e env) σ Q X):W S d r env (RV S) (eval (.BoolOp op [e] pos) env) σ Q X:=fun A P z y Φ s hA hs=>BoolOp_one (h A P z y Φ s hA hs)
end
section
variable {P P':Key→Prop} {z z':Gh} {y:Gy} {Φ Φ':Key→Addr} {s s':Shared}
noncomputable def Tree.new:Tree:={wins:= [],last:=0,clock:=0,lw:=0,lh:=0,root:=0,sel:=0,stg:=0}
theorem A8z(h0:σ.tr=none){t:Tree}(hw:t.wins= [])(m:Int):({σ with tr:=some t}:St).find m=σ.find m:=by
 have:t.get m=none:=by unfold Tree.get;refine(congrArg _ (hw)).trans ?_;rfl
 simp [St.find,h0,this]
theorem C9k{as:List AV}{fI:Addr}{Q:AV→St→Prop}(hmk:makesIn S.K S.CT=true)(hi:findIn S.K (.ref S.CT) "__init__"=some (some (.ref fI)))(hf:isFn S.K (.ref fI)=true)(h0:σ.tr=none)
  (h:WC S d r env fI (.ref .tree::as) {σ with tr:=some Tree.new} (fun a σ'=>a= .none∧Q (.ref .tree) σ') X):
  WC S (d+1) r env S.CT as σ Q X:=fun A P z y Φ s vs hA hs hv=>by
 have kin:=hs.kin
 have p1: ¬P .treeD:=fun h=>by obtain ⟨p,e⟩:=hs.pin.tree (.inr h);rw [h0]at e;exact k1 e
 have p2: ¬P .tree:=fun h=>by obtain ⟨p,e⟩:=hs.pin.tree (.inl h);rw [h0]at e;exact k1 e
 have hm:=makes_of (M:=model S.prog S.w) kin hmk
 obtain ⟨hh,g,dr,tk,os⟩:=s
 have k1: ∀a o,hh.get? a=some o→(hh.push emptyDict).get? a=some o:=fun _ _ e=>Heap.get?_push_of_some _ e
 have k2: ∀a o,(hh.push emptyDict).get? a=some o→((hh.push emptyDict).push (instObj S.CT hh.objs.size)).get? a=some o:=fun _ _ e=>Heap.get?_push_of_some _ e
 have sz:(hh.push emptyDict).objs.size=hh.objs.size+1:=Heap.size_push _ _
 obtain ⟨c1,x1⟩:=hs.core.alloc (ob':=fun j=>if j= .treeD then some (.ns [])else σ.obj S j) (hh.push emptyDict) tk dr k1 (b:=hh.objs.size) (q:= .treeD) (o:= .ns []) (A0y hh) p1
  ⟨[],0,Heap.get?_push_size _ rfl,rfl⟩ (fun j hj=>if_neg hj) (if_pos rfl)
 have obj2: ∀j,j≠ .tree→({σ with tr:=some Tree.new}:St).obj S j=if j= .treeD then some (.ns [])else σ.obj S j:=fun j hj=>by
  cases j with
  |tree=>exact absurd rfl hj
  |treeD=>refine Eq.trans ?_ (if_pos rfl).symm;rfl
  |wdic=>refine Eq.trans ?_ (if_neg (k9 rfl)).symm;simp [St.obj,h0,Tree.new]
  |win m=>refine Eq.trans ?_ (if_neg (k9 rfl)).symm;simp only [St.obj,A8z h0 (t:=Tree.new) rfl]
  |winD m=>refine Eq.trans ?_ (if_neg (k9 rfl)).symm;simp only [St.obj,A8z h0 (t:=Tree.new) rfl]
  |kid m v=>refine Eq.trans ?_ (if_neg (k9 rfl)).symm;simp only [St.obj,A8z h0 (t:=Tree.new) rfl]
  |_=>refine Eq.trans ?_ (if_neg (k9 rfl)).symm;rfl
 obtain ⟨c2,x2⟩:=c1.alloc (ob':=({σ with tr:=some Tree.new}:St).obj S) ((hh.push emptyDict).push (instObj S.CT hh.objs.size)) tk dr k2 (b:=hh.objs.size+1) (q:= .tree) (o:= .inst S.CT .treeD)
  (by refine(congrArg _ (sz).symm).trans ?_;exact A0y _) (fun h=>h.elim p2 (k9 rfl)) ⟨by
   dsimp only;rw [if_neg (k9 rfl),if_pos rfl,←sz];exact Heap.get?_push_size _ rfl,.inl (.inr rfl)⟩ obj2 rfl
 have pin:PInv {σ with tr:=some Tree.new} (fun j=>(P j∨j= .treeD)∨j= .tree):=by
  have old: ∀j,(P j∨j= .treeD)∨j= .tree→j≠ .treeD→j≠ .tree→P j:=fun j h h1 h2=>h.elim (fun h=>h.elim id fun h=>absurd h h1) fun h=>absurd h h2
  refine⟨fun k h=>hs.pin.tmp k (old _ h (k9 rfl) (k9 rfl)),fun m h=>?_,fun m v h=>?_,fun h=>⟨_,rfl⟩,fun h=>?_,fun h=>hs.pin.deck (old _ h (k9 rfl) (k9 rfl))⟩
  ·rw [A8z h0 rfl];exact hs.pin.win m (h.imp (fun h=>old _ h (k9 rfl) (k9 rfl)) fun h=>old _ h (k9 rfl) (k9 rfl))
  ·rw [A8z h0 rfl];exact hs.pin.kid m v (old _ h (k9 rfl) (k9 rfl))
  ·obtain ⟨t,e,_⟩:=hs.pin.wdic (old _ h (k9 rfl) (k9 rfl));rw [h0]at e;exact k13 e rfl
 have fr: ∀f,Pf (fun j=>(P j∨j= .treeD)∨j= .tree) f→Pf P f:=fun f h=>by
  rcases h with h| ⟨k,h⟩| ⟨k,h⟩|h|h <;> rcases h with(h|h)|h <;> first| (contradiction;done)|skip
  ·exact .inl h
  ·exact .inr (.inl ⟨k,h⟩)
  ·exact .inr (.inr (.inl ⟨k,h⟩))
  ·exact .inr (.inr (.inr (.inl h)))
  ·exact .inr (.inr (.inr (.inr h)))
 obtain ⟨xe,hs'⟩:=hs.addkeys (x1.trans x2) c2 ⟨rfl,rfl,rfl,rfl,rfl,rfl,rfl⟩ pin (fun f h=> .inl (fr f h)) (fun f k h=>by rcases h with(h|h)|h <;> first|exact .inl h|contradiction) (fun f ⟨o,e⟩=>⟨o,k2 _ _ (k1 _ _ e)⟩)
 refine make_core hm (looks_findIn kin hi) (fun self=>bind_fn kin self (beq_iff_eq.mp hf)) (.inl rfl) (codeAny_mono (h _ _ _ y _ _ (.ref (hh.objs.size+1)::vs) hA.under_tc hs' (A0c.cons ?_ (A0c.mono (x1.trans x2) _ _ hv))) fun rr s' hr=>?_)
 ·have:=C4e (S:=S) (P:=fun j=>(P j∨j= .treeD)∨j= .tree) (z:=z) (Φ:=fun j=>if j= .tree then hh.objs.size+1 else if j= .treeD then hh.objs.size else Φ j) (k:= .tree) (.inr rfl)
  rw [show(if Key.tree= .tree then hh.objs.size+1 else if Key.tree= .treeD then hh.objs.size else Φ .tree)=hh.objs.size+1 from if_pos rfl]at this
  exact this
 ·cases rr with
  |error e=>exact(show A9p S env _ _ y _ X e s' from hr).ext xe
  |ok f=>
   cases f with
   |ret v=>
    refine Res.el (hr:Res S env (RV S) _ _ y _ _ v s') fun P' z' Φ' σ' b x hr hs' h9=>?_
    obtain ⟨rfl,hq⟩:=h9
    refine A8b (A7z hr) (C5o P' z' Φ' σ' (.ref .tree) (xe.trans x) ?_ hs' hq)
    have pw:P' .tree:=x.p _ (.inr rfl)
    have:=C4e (S:=S) (z:=z') (Φ:=Φ') pw
    rwa [x.f _ (.inr rfl),show(if Key.tree= .tree then hh.objs.size+1 else if Key.tree= .treeD then hh.objs.size else Φ .tree)=hh.objs.size+1 from if_pos rfl]at this
   |_=>exact(hr:False).elim
noncomputable def Tree.new1:Tree:={Tree.new with stg:=1}
theorem C9l{x:Str}{xp fp lp pos:Pos}{Q:AF→St→Prop}(hx:Has σ.nam σ.loc x (.ref .tree))(h0:σ.tr=some Tree.new)(h:Q .next {σ with tr:=some Tree.new1}):
  W S d r env (RF S) (exec (.Assign [.Attribute (.Name x xp) (Str.ofString "windows") fp] (.Dict [] [] lp) pos) env) σ Q X:=fun A P z y Φ s hA hs=>by
 refine plainObj_wpAny_Assign_Attribute (wpAny_Dict_empty ?_) rfl
 have hs₁:=hs.grow (s.heap.push {cls:= .type "dict",data:= .dict #[]}) s.toks s.drawn (fun _ _ e=>Heap.get?_push_of_some _ e)
 have nb:=A0y s.heap
 refine A1a (hs.off nb) fun o1 o2 o3=>?_
 have nm:s.heap.objs.size≠sysModules:=by
  refine A0i (Option.ne_none_iff_exists'.mp hs.main) fun o e=>?_
  have h1:(3:Nat)<s.heap.objs.size:=Heap.lt_size e
  intro q;have q:s.heap.objs.size=1:=q;exact Z13 h1 q
 refine B3z hs₁ hx fun v hv=>A0f (A1s hv) fun pw y9a=>?_
 obtain rfl:=y9a
 have hq: ¬P .wdic:=fun h=>by obtain ⟨t,e,e2⟩:=hs.pin.wdic h;rw [h0]at e;cases e;exact absurd e2 (by decide)
 have ofi: ∀m,({σ with tr:=some Tree.new1}:St).find m=σ.find m:=fun m=>by
  have e1:Tree.new1.get m=none:=rfl
  have e2:Tree.new.get m=none:=rfl
  simp [St.find,h0,e1,e2]
 have obj2: ∀j,j≠ .wdic→j≠ .treeD→({σ with tr:=some Tree.new1}:St).obj S j=σ.obj S j:=fun j h1 h2=>by
  cases j with
  |wdic=>exact absurd rfl h1
  |treeD=>exact absurd rfl h2
  |tree=>simp [St.obj,h0]
  |win m=>simp only [St.obj,ofi]
  |winD m=>simp only [St.obj,ofi]
  |kid m v=>simp only [St.obj,ofi]
  |_=>rfl
 have oD:σ.obj S .treeD=some (.ns []):=by simp [St.obj,h0,Tree.fields,Tree.new]
 have oW:({σ with tr:=some Tree.new1}:St).obj S .wdic=some (.idic [] []):=by rfl
 obtain ⟨c,x⟩:=hs₁.core.newkey (ob':=fun j=>if j= .treeD then some (.ns [])else({σ with tr:=some Tree.new1}:St).obj S j) (b:=s.heap.objs.size) (q:= .wdic) (o:= .idic [] []) hq o1 o2
  ⟨[],nm,Heap.DictOf.new _,rfl,A0c.nil⟩ (fun j o hj q=>by
   have:σ.obj S j=some o:=by
    by_cases hjd:j= .treeD
    ·subst hjd;rw [if_pos rfl]at q;refine(oD).trans ?_;exact q
    ·rw [if_neg hjd,obj2 j hj hjd]at q;exact q
   exact⟨this,o3 _ _ this⟩) (by refine(if_neg (k9 rfl)).trans ?_;exact oW)
 refine C9h c hs₁.kin (k:= .tree) (ak:=Φ .tree) (if_neg (k9 rfl)) (dk:= .treeD) (m:= []) (ob':=({σ with tr:=some Tree.new1}:St).obj S) (by refine(if_neg (k9 rfl)).trans ?_;rfl) (if_pos rfl) (hs.ok.ts _ (by decide)) (a:= .ref .wdic) ?_ (Nat.zero_le _)
  (fun j hj=>(if_neg hj).symm) rfl fun s' hc hl=>?_
 ·have:=C4e (S:=S) (P:=fun j=>P j∨j= .wdic) (z:=z) (Φ:=fun j=>if j= .wdic then s.heap.objs.size else Φ j) (k:= .wdic) (.inr rfl)
  rwa [show(if Key.wdic= .wdic then s.heap.objs.size else Φ .wdic)=s.heap.objs.size from if_pos rfl]at this
 ·obtain ⟨xe,hs'⟩:=hs₁.addkeys x hc ⟨rfl,rfl,rfl,rfl,rfl,rfl,rfl⟩ ⟨fun k h=>hs.pin.tmp k (h.resolve_right (k9 rfl)),fun m h=>by
    simp only [ofi];exact hs.pin.win m (h.imp (fun h=>h.resolve_right (k9 rfl)) fun h=>h.resolve_right (k9 rfl)),fun m v h=>by rw [ofi];exact hs.pin.kid m v (h.resolve_right (k9 rfl)),fun h=>⟨_,rfl⟩,fun h=>⟨_,rfl,by exact Nat.le_refl _⟩,fun h=>hs.pin.deck (h.resolve_right (k9 rfl))⟩ (fun f h=> .inl (by
   rcases h with h| ⟨k,h⟩| ⟨k,h⟩|h|h <;> rcases h with h|h <;> first| (contradiction;done)|skip
   ·exact .inl h
   ·exact .inr (.inl ⟨k,h⟩)
   ·exact .inr (.inr (.inl ⟨k,h⟩))
   ·exact .inr (.inr (.inr (.inl h)))
   ·exact .inr (.inr (.inr (.inr h))))) (fun f k h=> .inl (h.resolve_right (k9 rfl))) hl
  exact Res.intro (b:= .next) xe A1y hs' h
theorem B6j{f:Str}{a:AV}{t t':Tree}{Q:Unit→St→Prop}(hf:f∈A9g)(hp:A8m f a t.fields=t'.fields)(hw:t'.wins=t.wins)(hg:1≤t.stg∧1≤t'.stg)(h:Q () (St.mk (some t') dk nw rl tb fid nam loc tmp cfid cnm cel glb)):
  W1 S d r env (R2 S) RU (fun v:Value×Value=>setAttr v.1 f v.2) (.ref .tree,a) (St.mk (some t) dk nw rl tb fid nam loc tmp cfid cnm cel glb) Q X:=B9d rfl hf hp hw ⟨fun _=>hg.1,fun _=>hg.2⟩ (by unfold Tree.fields;rw [List.length_take];exact Nat.le_trans (Nat.min_le_right _ _) (Nat.le_of_ble_eq_true rfl)) h
theorem D0j{x:Str}{xp fp lp pos:Pos}{Q:AF→St→Prop}(hx:Has nam loc x (.ref .tree))(h:Q .next (St.mk (some Tree.new1) dk nw rl tb fid nam loc tmp cfid cnm cel glb)):
  W S d r env (RF S) (exec (.Assign [.Attribute (.Name x xp) (Str.ofString "windows") fp] (.Dict [] [] lp) pos) env) (St.mk (some Tree.new) dk nw rl tb fid nam loc tmp cfid cnm cel glb) Q X:=C9l (σ:=(St.mk (some Tree.new) dk nw rl tb fid nam loc tmp cfid cnm cel glb)) hx rfl h
theorem B9j(G:PG S){fp pos:Pos}{e:Expr}{rest:List Expr}{Q:AV→St→Prop}(hx:Str.ofString "WindowTree"∈σ.glb)(he:starEach (e::rest) env=(false,eval e env)::starEach rest env)(hplain:(backTo pos (starEach rest env)).any (·.1)=false)(h:W S d r env (RL S) (spliced (backTo pos (starEach (e::rest) env))) σ (fun as σ₁=>WC S d r env S.CT as σ₁ Q X) X):W S d r env (RV S) (eval (.Call (.Name (Str.ofString "WindowTree") fp) (e::rest) [] pos) env) σ Q X:=A1q hx G.k_WindowTree.1 G.k_WindowTree.2.1 he hplain h
end
section
variable {P P':Key→Prop} {z z':Gh} {y:Gy} {Φ Φ':Key→Addr} {s s':Shared}
theorem C3j{C:Addr}{x:Str}{k:Nat}{g:List Str}{cenv:Env}{xp:Pos}{kx vx iter:Expr}{scope:Scope}{pos:Pos}{A:Around}{I D:Addr}{n:Nat}{Pw:Nat→Value→Prop}{Stt:Nat→Heap→Prop}{fp:List Addr}{l:List Int}{f:Int→AV}{R:Result→Shared→Prop}
  (hl:cenv.locals=C) (hA:AOK d false cenv y A) (WK:Walks S.prog S.w A I fp [I] n Pw Stt) (hfp: ∀b∈fp,b=I∨ ∃o,z b=some o) (hln:l.length=n) (hn:n≤100000) (hnd:l.Nodup) (hP: ∀i v a,Pw i v→(l.map AV.int)[i]? =some a→A1i S P z Φ a v)
  (hs:Sim S cenv (σ.comp C x none k g) P z y Φ s) (offI:Off ((σ.comp C x none k g).obj S) z y Φ I) (pfI: ¬Pf P I) (offD:Off ((σ.comp C x none k g).obj S) z y Φ D) (pfD: ¬Pf P D) (hne:D≠I) (hst:Stt 0 s.heap) (hD:s.heap.DictOf (intKind S.prog S.w) D [])
  (hlive: ∀i h,Stt i h→ ∃o,h.get? I=some o) (hk: ∀a∈l,B1k S d cenv (σ.comp C x (some (.int a)) k g) kx (.int a)) (he: ∀a∈l,B1k S d cenv (σ.comp C x (some (.int a)) k g) vx (f a))
  (hR: ∀s' P' z' Φ' ov vs,Ext C y P z Φ P' z' Φ'→Sim S cenv (σ.comp C x ov k g) P' z' y Φ' s'→Off ((σ.comp C x ov k g).obj S) z' y Φ' D→ ¬Pf P' D→s'.heap.DictOf (intKind S.prog S.w) D (l.zip vs)→l.length=vs.length→A0c S P' z' Φ' (l.map f) vs→R (.ok .next) s'):
  codeAny (model S.prog S.w) A (.compLoop (.DictComp kx vx [⟨.Name x xp,iter,[],0⟩] scope pos) 0 (.ref I) (.ref D) cenv) R s:=by
 have offv: ∀{ov ov':Option AV} {z:Gh} {y:Gy} {Φ:Key→Addr} {a:Addr},Off ((σ.comp C x ov k g).obj S) z y Φ a→Off ((σ.comp C x ov' k g).obj S) z y Φ a:=fun{ov ov' z y Φ a} h=>⟨h.1,h.2.1,fun q o e=>by
  rcases A3x e with⟨e1,e2⟩| ⟨rfl,rfl⟩
  ·refine h.2.2 q o ?_
   cases q with
   |loc f=>exact absurd rfl (e2 f)
   |_=>exact e
  ·exact h.2.2 (.loc C) _ (A3c.mpr ⟨rfl,rfl⟩)⟩
 let I9:Nat→Shared→Prop:=fun m s'=> ∃i P' z' Φ' ov vs,m=n+1-i∧i≤n∧Ext C y P z Φ P' z' Φ'∧Sim S cenv (σ.comp C x ov k g) P' z' y Φ' s'∧Off ((σ.comp C x ov k g).obj S) z' y Φ' I∧ ¬Pf P' I∧Off ((σ.comp C x ov k g).obj S) z' y Φ' D∧ ¬Pf P' D∧Stt i s'.heap∧s'.heap.DictOf (intKind S.prog S.w) D ((l.take i).zip vs)∧(l.take i).length=vs.length∧A0c S P' z' Φ' ((l.take i).map f) vs
 refine codeAny_compLoop_testsD I9 ?_ (n+1)
  ⟨0,P,z,Φ,none,[],rfl,Nat.zero_le _,Ext.refl,hs,offI,pfI,offD,pfD,hst,by exact hD,rfl,by exact A0c.nil⟩
 intro m s' h9
 refine A7s h9 fun i P' z' Φ' ov y9a=>?_
 try clear h9
 refine A5l y9a fun vs y9b hi x' hs' offI' y9c=>B8a y9c fun pfI' offD' pfD' hst' hD' y9d=>A0f y9d fun hlv hv'=>?_
 obtain rfl:=y9b
 by_cases hlt:i<n
 ·refine WK.item i _ _ _ hlt hst' fun v h₁ tk hv hst₁ hk₁=>?_
  have hs₁:Sim S cenv (σ.comp C x ov k g) P' z' y Φ' {s' with heap:=h₁,toks:=tk}:=hs'.turn offI' h₁ tk (fun b o hb e=>hk₁ b o (by simpa using hb) e) pfI'
  have hil:i<l.length:=by exact Z5 hln hlt
  have hli:(l.map AV.int)[i]? =some (.int l[i]):=by simp only [List.getElem?_map,List.getElem?_eq_getElem hil];rfl
  have hmem:l[i]∈l:=List.getElem_mem _
  have hvr:A1i S P' z' Φ' (.int l[i]) v:=A1i.mono x'.toExt0 _ _ (hP i v _ hv hli)
  refine A0i (hlive _ _ hst₁) fun oI hoI=>A0e (Heap.dictOf_iff.mp hD') fun oD hoD hisD=>?_
  have hoD₁:h₁.get? D=some oD:=hk₁ D _ (by simpa using hne) hoD
  have frm: ∀{h₂:Heap} {P₂ z₂ Φ₂},Ext C y P' z' Φ' P₂ z₂ Φ₂→(∀b o,z₂ b=some o→h₂.get? b=some o)→h₂.get? I=some oI→Stt (i+1) h₂:=fun{h₂ P₂ z₂ Φ₂} x₂ hz h2=>WK.frame _ _ _ hst₁ fun b hb o e=>by
   rcases hfp b hb with q| ⟨o',ho'⟩
   ·subst q;rw [hoI]at e;cases e;exact h2
   ·have h1:=hs₁.core.zin b _ (x'.z _ _ ho')
    have h1:h₁.get? b=_:=h1
    rw [h1]at e;cases e;exact hz b _ (x₂.z _ _ (x'.z _ _ ho'))
  have tk1:l.take (i+1)=l.take i++ [l[i]]:=by simp only [List.take_add_one,List.getElem?_eq_getElem hil];rfl
  have hh:=(hs₁.hold hoI offI').hold hoD₁ (offD'.add hne)
  refine wpAny_assign_Name (A3b (l':= [some (.int l[i])]) hh .head hvr fun s₂ hs₂=>?_)
  refine A1a (hs₂.unhold (offD'.add hne).2.1) fun hs₃ eD₃ oD₃=>A1a (hs₃.unhold offI'.2.1) fun hs₄ eI₄ oI₄=>?_
  have hs₄:Sim S cenv (σ.comp C x (some (.int l[i])) k g) P' z' y Φ' s₂:=hs₄
  refine wpAny_tests_nil ?_
  simp [if_true]
  refine W.beside (hk _ hmem) hA hs₄ eI₄ (offv offI') pfI' eD₃ (offv offD') pfD' hne fun u₀ s₅ P₅ z₅ Φ₅ σ₅ b₅ x₅ r₅ hs₅ hq₅ eI₅ oI₅ pI₅ eD₅ oD₅ pD₅=>?_
  rw [hl]at x₅
  refine A0f hq₅ fun y9a y9b=>?_
  try clear hq₅
  obtain rfl:=y9a
  obtain rfl:=y9b
  refine A0i (A0r (show A1i S P₅ z₅ Φ₅ (.int l[i]) u₀ from r₅)) fun tk₅ y9a=>?_
  obtain rfl:=y9a
  refine W.beside (he _ hmem) hA hs₅ eI₅ oI₅ pI₅ eD₅ oD₅ pD₅ hne fun u s₆ P₆ z₆ Φ₆ σ₆ b x₆ r₆ hs₆ hq eI₆ oI₆ pI₆ eD₆ oD₆ pD₆=>?_
  rw [hl]at x₆
  refine A0f hq fun y9a y9b=>?_
  try clear hq
  obtain rfl:=y9a
  obtain rfl:=y9b
  have hv6:=A0c.app (A0c.mono (x₅.trans x₆).toExt0 _ _ hv') (A0c.cons (show A1i S P₆ z₆ Φ₆ (f l[i]) u from r₆) A0c.nil)
  have hlt2:(l.take i).length≤i:=by rw [List.length_take];exact Nat.min_le_left _ _
  refine wpAny_dictSet_pairs (hsz:=by simp only [List.length_zip,←hlv,sizeLine_eq];lia) (intKind_is _ _ l[i] tk₅) (Heap.dictOf_iff.mpr ⟨oD,eD₆,hisD⟩) fun h₇ hl₇ hs₇=>?_
  rw [A8q (by
   intro hin
   obtain ⟨j,hj,e⟩:=List.getElem_of_mem hin
   rw [List.getElem_take]at e
   have hji:j<i:=by rw [List.length_take]at hj;lia
   exact absurd ((List.getElem_inj hnd).mp e) (Nat.ne_of_lt hji)) hlv]at hl₇
  have keep: ∀b o,b≠D→s₆.heap.get? b=some o→h₇.get? b=some o:=fun b o hb e=>(hs₇.2 b hb).trans e
  refine A1f (n+1- (i+1)) (by omega) (C1e (i+1) P₆ z₆ Φ₆ _ (B0f (vs++ [u]) rfl hlt (x'.trans (x₅.trans x₆)) (hs₆.turn oD₆ h₇ _ keep pD₆) oI₆ (D0r pI₆ oD₆ pD₆ (frm (x₅.trans x₆) (fun b o e=>keep b o (fun q=>by rw [q,oD₆.1]at e;exact k1 e) (hs₆.core.zin b o e)) (keep _ _ (Ne.symm hne) eI₆)) ?_ (A8b ?_ ?_))))
  ·rw [tk1];exact hl₇
  ·simp only [tk1,List.length_append,List.length_append,hlv];rfl
  ·simp only [tk1,List.map_append];exact hv6
 ·have hin:i=n:=by exact Z7 hi hlt
  subst hin
  have e:l.take i=l:=List.take_of_length_le (Nat.le_of_eq hln)
  rw [e]at hv' hD' hlv
  refine WK.done _ _ _ hst' fun h₁ tk hk₁=>hR _ P' z' Φ' ov vs x' (hs'.turn offI' h₁ tk (fun b o hb e=>hk₁ b o (by simpa using hb) e) pfI') offD' pfD' ?_ hlv hv'
  exact hD'.at fun o e=>hk₁ D _ (by simpa using hne) e
theorem B6o{x:Str}{xp:Pos}{kx vx iter:Expr}{scope:Scope}{cl:List (Str×Addr)}{pos:Pos}{g:List Str}{A:Around}{k:Nat}{f:Int→AV}{l:List Int}{xv:Value}{RR:Value→Addr→Result→Shared→Prop}{E:Value→Shared→Prop}
  (hA:AOK d r env y A) (hs:Sim S env σ P z y Φ s) (hv:A1i S P z Φ (.lst (l.map .int)) xv) (hln:l.length≤100000) (hnd:l.Nodup) (O:CompOK env scope cl x (σ.cnm.take k) g)
  (ht: ∀C,∀a∈l,B1k S d (compEnvC scope cl C env) (σ.comp C x (some (.int a)) k g) kx (.int a)) (he: ∀C,∀a∈l,B1k S d (compEnvC scope cl C env) (σ.comp C x (some (.int a)) k g) vx (f a))
  (hR: ∀C D oC oD vs s' P' z' Φ',Ext env.locals y P z Φ P' z' Φ'→Sim S env σ P' z' y Φ' s'→C≠D→D≠sysModules→s'.heap.get? C=some oC→(∃m,s'.heap.Ns C m)→Off (σ.obj S) z' y Φ' C→s'.heap.get? D=some oD→oD.IsDictOf (intKind S.prog S.w) (l.zip vs)→Off (σ.obj S) z' y Φ' D→ ¬Pf P' D→l.length=vs.length→A0c S P' z' Φ' (l.map f) vs→RR (.ref D) C (.ok .next) s'):
  wpAny (model S.prog S.w) A (pyIter xv) (fun it s₂=>wpAny (model S.prog S.w) A newDict (fun acc s₃=>wpAny (model S.prog S.w) A (newFunctionEnv scope env.globals cl [] env.qual none .none (some env)) (fun cenv s₄=>
   codeAny (model S.prog S.w) A (.compStart (.DictComp kx vx [⟨.Name x xp,iter,[],0⟩] scope pos) 0 it acc {cenv with scope:=relabel scope env}) (RR acc cenv.locals) s₄) E s₃) E s₂) E s:=by
 obtain ⟨b,its,n,rfl,hz,hv⟩:=A8h hv
 have hb:=hs.core.zin _ _ hz
 have hl:s.heap.IsList b its:=⟨_,hb,rfl,n,rfl⟩
 have nm: ∀a:Nat,s.heap.objs.size≤a→a≠sysModules:=fun a ha=>by
  refine A0i (Option.ne_none_iff_exists'.mp hs.main) fun o e=>?_
  have h1:(3:Nat)<s.heap.objs.size:=Heap.lt_size e
  intro q;have q:a=1:=q;lia
 refine wpAny_pyIter_list hl (wpAny_newObj_type (wpAny_newFunctionEnv O.ncell (by intro y hy;exact k3 hy) (fun h₁ hns₁ hsb₁=>?_) O.kind))
 dsimp only at hns₁ hsb₁ ⊢
 generalize hH1:s.heap.push {cls:= .type "list_iterator",data:= .fields #[.ref b,.int 0 0]}=H1 at hns₁ hsb₁ ⊢
 have sz1:H1.objs.size=s.heap.objs.size+1:=by simp only [←hH1,Heap.size_push]
 have hnew:(H1.push {cls:= .type "dict",dict:=none,data:= .dict #[]}).DictOf (intKind S.prog S.w) H1.objs.size []:=Heap.DictOf.new H1
 generalize hH2:H1.push {cls:= .type "dict",dict:=none,data:= .dict #[]}=H2 at hns₁ hsb₁ hnew ⊢
 have sz2:H2.objs.size=s.heap.objs.size+2:=by simp only [←hH2,Heap.size_push,sz1]
 have fresh: ∀a:Nat,s.heap.objs.size≤a→s.heap.get? a=none:=fun a ha=>Heap.get?_none_of_le ha
 have nI:s.heap.get? s.heap.objs.size=none:=fresh _ (Nat.le_refl _)
 have nD:s.heap.get? H1.objs.size=none:=fresh _ (by simp only [sz1];exact Nat.le_succ _)
 have nC:s.heap.get? H2.objs.size=none:=fresh _ (by simp only [sz2];exact Nat.le_add_right _ _)
 have hIC:s.heap.objs.size≠H2.objs.size:=by simp only [sz2];exact Nat.ne_of_lt (Nat.lt_add_of_pos_right (Nat.le_of_ble_eq_true rfl))
 have hDC:H1.objs.size≠H2.objs.size:=by simp only [sz1,sz2];exact Nat.ne_of_lt (Nat.lt_succ_self _)
 have hDI:H1.objs.size≠s.heap.objs.size:=by rw [sz1];exact Nat.succ_ne_self _
 have hbI:b≠s.heap.objs.size:=Nat.ne_of_lt (Heap.lt_size hb)
 have up: ∀a o,a≠H2.objs.size→H2.get? a=some o→h₁.get? a=some o:=fun a o hne e=>hsb₁.extBut a o hne (Heap.get?_push_of_some _ e)
 have i2:H2.get? s.heap.objs.size=some {cls:= .type "list_iterator",data:= .fields #[.ref b,.int 0 0]}:=hH2▸Heap.get?_push_of_some _ (hH1▸Heap.get?_push_size _ rfl)
 have old: ∀a o,s.heap.get? a=some o→h₁.get? a=some o:=fun a o e=>up a o (fun q=>by rw [q,nC]at e;exact k1 e) (hH2▸Heap.get?_push_of_some _ (hH1▸Heap.get?_push_of_some _ e))
 refine A1a (B6n (k:=k) (g:=g) (x:=x) hs O nC (tk:=s.toks+ ([]:List (Str×Value)).length) old hns₁) fun hc xt hs₁=>A0f (B3g (x:=x) (k:=k) (g:=g) hs nI hIC nC) fun oI pI=>A0f (B3g (x:=x) (k:=k) (g:=g) hs nD hDC nC) fun oD pD=>?_
 have WK:=Walks.list (prog:=S.prog) (w:=S.w) hA.h s.heap.objs.size b hbI its
 have hst:h₁.IsListIter s.heap.objs.size b 0∧h₁.IsList b its:=⟨⟨_,up _ _ hIC i2,rfl,rfl⟩,⟨_,old _ _ hb,rfl,n,rfl⟩⟩
 have hvs:l.length=its.size:=by have:=hv.size;simp only [List.length_map]at this;exact this.symm
 have loop: ∀s₃:Shared,s₃={s with heap:=h₁,toks:=s.toks+ ([]:List (Str×Value)).length}→
   codeAny (model S.prog S.w) A (.compLoop (.DictComp kx vx [⟨.Name x xp,iter,[],0⟩] scope pos) 0 (.ref s.heap.objs.size) (.ref H1.objs.size) (compEnvC scope cl H2.objs.size env)) (RR (.ref H1.objs.size) H2.objs.size) s₃:=by
  rintro s₃ rfl
  refine C3j (C:=H2.objs.size) rfl hA.any WK ?_ hvs (by rw [←hvs];exact hln) hnd ?_ hc oI pI oD pD hDI hst (hnew.at fun o e=>up _ _ hDC e) (fun i h ⟨⟨o,e,_⟩,_⟩=>⟨o,e⟩) (ht _) (he _) fun s' P' z' Φ' ov vs x' hs' offD' pfD' hD' hlv hv'=>?_
  ·intro c hcm
   rcases List.mem_cons.mp hcm with rfl|hcm
   ·exact .inl rfl
   ·rw [List.mem_singleton.mp hcm];exact .inr ⟨_,hz⟩
  ·intro i v a hi ha
   refine A0e (hv.at i ha) fun u e1 e2=>?_
   rw [Array.getElem?_toList]at e1
   rw [e1]at hi;cases hi;exact A1i.mono xt _ _ e2
  ·refine A0f (B9y hs nC x' hs') fun xb hsb=>A0e (Heap.dictOf_iff.mp hD') fun oo hoo his=>?_
   have R:=hs'.core.rep (.loc H2.objs.size) _ (A3c.mpr ⟨rfl,rfl⟩)
   simp only [show Φ' (.loc H2.objs.size)=H2.objs.size from hs'.loc]at R
   refine A0e R fun mm hm _=>?_
   try clear R
   refine A0i (B1s hm) fun oC eC=>?_
   have far: ∀a,s.heap.get? a=none→z' a=none→Off (σ.obj S) z' y Φ' a:=fun a ha hz'=>⟨hz',(hs.off ha).2.1,fun q o e w=>by
    rw [xb.f q (hs.core.al q o e)]at w;exact(hs.off ha).2.2 q o e w⟩
   refine hR _ _ oC oo vs s' P' z' Φ' xb hsb (Ne.symm hDC) (nm _ (by simp only [sz1];exact Nat.le_succ _)) eC ⟨mm,hm⟩ (far _ nC ?_) hoo his (far _ nD offD'.1) pfD' hlv hv'
   have:=hs'.core.zf (.loc H2.objs.size) _ (A3c.mpr ⟨rfl,rfl⟩)
   rwa [show Φ' (.loc H2.objs.size)=H2.objs.size from hs'.loc]at this
 exact codeAny_compStart_dict (loop _ rfl) (WK.self 0 _ _ _ hst (loop _ rfl))
noncomputable def D1e(S:SP)(d:Nat)(env:Env)(scope:Scope)(cl:List (Str×Addr))(x:Str)(kx vx:Expr)(g:List Str)(a:AV)(σ:St)(Q:AV→St→Prop):Prop:=
 ∃(l:List Int) (k:Nat) (f:Int→AV),a= .lst (l.map .int)∧l.length≤100000∧l.Nodup∧CompOK env scope cl x (σ.cnm.take k) g∧(∀C,∀a∈l,B1k S d (compEnvC scope cl C env) (σ.comp C x (some (.int a)) k g) kx (.int a))∧
  (∀C,∀a∈l,B1k S d (compEnvC scope cl C env) (σ.comp C x (some (.int a)) k g) vx (f a))∧Q (.dic l (l.map f)) σ
theorem C2k{x:Str}{xp:Pos}{kx vx iter:Expr}{scope:Scope}{cl:List (Str×Addr)}{pos:Pos}{g:List Str}{Q:AV→St→Prop}(hclos:closureFor scope env=pure cl)(hk:scope.kind= .function)(hnm: ∀y∈scope.names,y.2= .local→scope.names.lookup y.1=some .local)(hfs: ∀v,foldedSetIterable iter env v=pure v)
  (h:W S d r env (RV S) (eval iter env) σ (fun a σ₁=>D1e S d env scope cl x kx vx g a σ₁ Q) X):W S d r env (RV S) (eval (.DictComp kx vx [⟨.Name x xp,iter,[],0⟩] scope pos) env) σ Q X:=fun A P z y Φ s hA hs=>by
 rw [arm_eval_DictComp]
 refine B3f (use:=none) rfl hfs hclos hk hnm (h.run hA hs (fun v s₁ P₁ z₁ Φ₁ σ₁ a x₁ r₁ hs₁ h₁=>?_) fun _ _ e=>e)
 refine B4q h₁ fun l k f y9a hl hnd O ht y9b=>?_
 try clear h₁
 refine A0f y9b fun he hq=>?_
 obtain rfl:=y9a
 refine B6o (RR:=fun acc C=>B1j (model S.prog S.w) A (A9p S env P z y Φ X) none (Res S env (RV S) P z y Φ Q) acc C) hA hs₁ r₁ hl hnd O ht he ?_
 intro C D oC oD vs s' P' z' Φ' x' hs' hCD hDs eC hm offC eD his offD pfD hlv hv
 refine A0i hm fun m hm=>A1f m hm (fun h' m' hn' hsb=>?_)
 have hs₂:=hs'.turnL offC h' s'.toks (fun b o hb e=>(hsb.2 b hb).trans e) (B1s hn')
 refine A0f (hs₂.freezeOff offD (show h'.get? D=some _ from(hsb.2 D (Ne.symm hCD)).trans eD)) fun hs₃ xf=>?_
 exact Res.intro (b:= .dic l (l.map f)) ((x₁.trans x').trans ⟨xf,fun _ _ _ h=> .inl h,fun _ h=> .inl h⟩) (D4b hDs (if_pos rfl) his hlv (A0c.mono xf _ _ hv)) hs₃ hq
theorem B5e{x t:Str}{xp tp:Pos}{kx vx iter:Expr}{scope:Scope}{cl:List (Str×Addr)}{pos spos:Pos}{g:List Str}{Q:AF→St→Prop}(hsw:swapsWith (.DictComp kx vx [⟨.Name x xp,iter,[],0⟩] scope pos) (some (.Name t tp)) spos.line env=pure true)(hclos:closureFor scope env=pure cl)(hk:scope.kind= .function)(hnm: ∀y∈scope.names,y.2= .local→scope.names.lookup y.1=some .local)(hfs: ∀v,foldedSetIterable iter env v=pure v)
  (h:W S d r env (RV S) (eval iter env) σ (fun a σ₁=>D1e S d env scope cl x kx vx g a σ₁ fun v σ₂=>A9c σ₂ t v (Q .next)) X):W S d r env (RF S) (exec (.Assign [.Name t tp] (.DictComp kx vx [⟨.Name x xp,iter,[],0⟩] scope pos) spos) env) σ Q X:=fun A P z y Φ s hA hs=>by
 rw [exec_Assign_Name_used _ _ _ _ hsw]
 refine wpAny_bind (wpAny_standAt (wpAny_bind ?_))
 show wpAny _ A (do let _ ←comprehension (.DictComp kx vx [⟨.Name x xp,iter,[],0⟩] scope pos) scope env _ newDict false (eval iter env) (some (assign (.Name t tp) env))) _ _ s
 refine wpAny_bind (wpAny_mono (B3f (use:=some (assign (.Name t tp) env)) (Q:=fun _ s'=>Res S env (RF S) P z y Φ Q .next s') (E:=A9p S env P z y Φ X) rfl hfs hclos hk hnm (h.run hA hs (fun v s₁ P₁ z₁ Φ₁ σ₁ a x₁ r₁ hs₁ h₁=>?_) fun _ _ e=>e))
  (fun _ s' hq=>wpAny_pure (wpAny_pure hq)) fun _ _ e=>e)
 refine B4q h₁ fun l k f y9a hl hnd O ht y9b=>?_
 try clear h₁
 refine A0f y9b fun he y9c=>A0e y9c fun l' hput hq=>?_
 obtain rfl:=y9a
 refine B6o (RR:=fun acc C=>B1j (model S.prog S.w) A (A9p S env P z y Φ X) (some (assign (.Name t tp) env)) (fun _ s'=>Res S env (RF S) P z y Φ Q .next s') acc C) hA hs₁ r₁ hl hnd O ht he ?_
 intro C D oC oD vs s' P' z' Φ' x' hs' hCD hDs eC hm offC eD his offD pfD hlv hv
 refine A0i hm fun m hm=>?_
 show wpAny _ A (assign (.Name t tp) env (.ref D)) _ _ s'
 refine A0f (hs'.freezeOff offD eD) fun hs₃ xf=>?_
 have hvD:A1i S P' (fun b=>if b=D then some oD else z' b) Φ' (.dic l (l.map f)) (.ref D):=D4b hDs (if_pos rfl) his hlv (A0c.mono xf _ _ hv)
 have offC':Off (σ₁.obj S) (fun b=>if b=D then some oD else z' b) y Φ' C:=⟨by simp [hCD,if_false];exact offC.1,offC.2.1,offC.2.2⟩
 have hh:=hs₃.hold eC offC'
 refine wpAny_assign_Name (A3b hh hput hvD fun s₄ hs₄=>?_)
 refine A1a (hs₄.unhold offC'.2.1) fun hs₅ eC₅ oC₅=>A1f m (B0b hm fun o e=>by rw [eC]at e;cases e;exact eC₅) (fun h' m' hn' hsb=>?_)
 exact Res.intro (b:= .next) ((x₁.trans x').trans ⟨xf,fun _ _ _ h=> .inl h,fun _ h=> .inl h⟩) A1y (hs₅.turnL oC₅ h' s₄.toks (fun b o hb e=>(hsb.2 b hb).trans e) (B1s hn')) hq
end
section
variable {P P':Key→Prop} {z z':Gh} {y:Gy} {Φ Φ':Key→Addr} {s s':Shared}
theorem D1x(items:Array Value)(h:items.size≤63):slicePick items none (some 63) none=items:=by
 have hb:sliceBounds none (some 63) none items.size=(0,(items.size:Int),1):=by
  simp only [sliceBounds,Option.getD_none,show(1:Int)>0 by decide,if_true,show ¬((63:Int)<0)by decide,if_false]
  rw [show max 0 (min (63:Int) items.size)=items.size by lia]
 have hr:sliceRange 0 (items.size:Int) 1=List.range items.size:=by
  unfold sliceRange
  simp only [show(1:Int)>0 by decide,if_true,Int.ediv_one]
  by_cases q:(0:Int)<items.size
  ·rw [if_pos q,show((items.size:Int)-0+1-1).toNat=items.size by lia]
   refine(List.map_congr_left fun k _=>?_).trans (List.map_id _)
   show(0+1* (k:Int)).toNat=k;lia
  ·have e:items.size=0:=by lia
   rw [if_neg q,e];rfl
 unfold slicePick
 rw [hb]
 show((sliceRange 0 (items.size:Int) 1).filterMap (items[·]?)).toArray=_
 simp only [hr,krv_all]
theorem C3y{value:Expr}{p1 p3 pos:Pos}{k:Nat}{Q:AV→St→Prop}(h:W S d r env (RV S) (eval value env) σ (fun a σ₁=> ∃l,LA S σ₁ a l∧l.length≤63∧Q (.lst l) σ₁) X):
  W S d r env (RV S) (eval (.Subscript value (.Slice none (some (.Constant (.int 63) k p1)) none p3) pos) env) σ Q X:=fun A P z y Φ s hA hs=>by
 simp only [eval_Subscript]
 refine wpAny_bind (h.run hA hs (fun v s₁ P₁ z₁ Φ₁ σ₁ a x₁ r₁ hs₁ h₁=>?_) fun e s' hx=>hx)
 refine A2u h₁ fun l hl hb hq=>?_
 try clear h₁
 refine A3m (hl.at hs₁ r₁) fun c its n y9a g1 g2=>?_
 obtain rfl:=y9a
 have z1:=g2.size
 refine wpAny_bind (wpAny_holding ?_)
 show wpAny _ A (do
  let l ←(pure .none:Sem Value)
  let u ←holding [l] (eval (.Constant (.int 63) k p1) env)
  let st ←holding [l,u] (pure .none:Sem Value)
  newFields "slice" [l,u,st]) _ _ _
 refine wpAny_bind (wpAny_pure (wpAny_bind (wpAny_holding (wpAny_Constant_int (wpAny_bind (wpAny_holding (wpAny_pure ?_)))))))
 unfold newFields
 refine wpAny_newObj_type ?_
 have hs₂:=(hs₁.grow (s₁.heap.push {cls:= .type "slice",data:= .fields [.none,.int 63 s₁.toks,.none].toArray}) (s₁.toks+1) s₁.drawn (fun _ _ e=>Heap.get?_push_of_some _ e))
 have g1':=Heap.get?_push_of_some (h:=s₁.heap) {cls:= .type "slice",data:= .fields [.none,.int 63 s₁.toks,.none].toArray} g1
 refine wpAny_bind (wpAny_standAt ?_)
 refine tail_any (T:= "list") ⟨_,g1',rfl⟩ slot_list_getitem.lookup (ops:= [.ref s₁.heap.objs.size,.ref c]) (wpAny_getItem_list_slice (items:=its) (lo:=none) (hi:=some 63) (st:=none) ⟨_,g1',rfl,n,rfl⟩ (Heap.IsSliceOf.new _ _ _ _) ?_ ?_ ?_ (by decide) ?_ (by simp only [sizeLine_eq];lia)) rfl
 ·exact .none
 ·exact .int _ _
 ·exact .none
 ·rw [D1x its (by exact Z15 hb z1)]
  exact Res.ext x₁ (A7v (s:={s₁ with heap:=s₁.heap.push {cls:= .type "slice",data:= .fields [.none,.int 63 s₁.toks,.none].toArray},toks:=s₁.toks+1}) hs₂ g2 hq)
end
theorem A4y{x:Str}{p pos:Pos}{rest:List Expr}{a:AV}{Q:List AV→St→Prop}(hx:Has σ.nam σ.loc x a)(h:W S d r env (RL S) (spliced (backTo pos (starEach rest env))) σ (fun as σ₂=>Q (a::as) σ₂) X):W S d r env (RL S) (spliced (backTo pos (starEach (.Name x p::rest) env))) σ Q X:=A0b rfl (A9q hx h)
theorem A2s{x:Str}{p pos:Pos}{a:AV}{Q:List AV→St→Prop}(hx:Has σ.nam σ.loc x a)(h:Q [a] σ):W S d r env (RL S) (spliced (backTo pos (starEach [.Name x p] env))) σ Q X:=A4y hx (A0g h)
theorem A3j{x x2:Str}{p p2 pos:Pos}{a b:AV}{Q:List AV→St→Prop}(hx:Has σ.nam σ.loc x a)(hy:Has σ.nam σ.loc x2 b)(h:Q [a,b] σ):W S d r env (RL S) (spliced (backTo pos (starEach [.Name x p,.Name x2 p2] env))) σ Q X:=A4y hx (A2s hy h)
theorem C2i{x:Str}{p pos:Pos}{rest:List Expr}{a:AV}{Q:List AV→St→Prop}(hx:Has σ.cnm σ.cel x a)(h:W S d r env (RL S) (spliced (backTo pos (starEach rest env))) σ (fun as σ₂=>Q (a::as) σ₂) X):W S d r env (RL S) (spliced (backTo pos (starEach (.Name x p::rest) env))) σ Q X:=A0b rfl (C4d hx h)
theorem A8k{x:Str}{p pos:Pos}{a:AV}{Q:List AV→St→Prop}(hx:Has σ.cnm σ.cel x a)(h:Q [a] σ):W S d r env (RL S) (spliced (backTo pos (starEach [.Name x p] env))) σ Q X:=C2i hx (A0g h)
theorem C3p{i:Int}{k:Nat}{p pos:Pos}{rest:List Expr}{Q:List AV→St→Prop}(h:W S d r env (RL S) (spliced (backTo pos (starEach rest env))) σ (fun as σ₂=>Q (.int i::as) σ₂) X):W S d r env (RL S) (spliced (backTo pos (starEach (.Constant (.int i) k p::rest) env))) σ Q X:=A0b rfl (A0w h)
theorem A7h{i:Int}{k:Nat}{p pos:Pos}{Q:List AV→St→Prop}(h:Q [.int i] σ):W S d r env (RL S) (spliced (backTo pos (starEach [.Constant (.int i) k p] env))) σ Q X:=C3p (A0g h)
theorem A2c{x:Str}{p f pos a}{Q:AV→St→Prop}(hx:Has σ.nam σ.loc x a)(h:W1 S d r env (RV S) (RV S) (fun v=>getAttr v f true) a σ Q X):W S d r env (RV S) (eval (.Attribute (.Name x p) f pos) env) σ Q X:=A3q rfl (A9q hx h)
theorem B6t{x:Str}{p f pos a}{Q:AV→St→Prop}(hx:Has σ.cnm σ.cel x a)(h:W1 S d r env (RV S) (RV S) (fun v=>getAttr v f true) a σ Q X):W S d r env (RV S) (eval (.Attribute (.Name x p) f pos) env) σ Q X:=A3q rfl (C4d hx h)
theorem D6i{x2:Str}{v:Expr}{p3 pos:Pos}{Q:AV→St→Prop}(hy:Has σ.nam σ.loc x2 (.int n))(hS:t.S5)(h2:t.get n=some w)(h1:σ.tr=some t)(h:Q (.ref (.win n)) σ):W1 S d r env (RV S) (RV S) (fun v=>getAttr v (Str.ofString "windows") true) (.ref .tree) σ (fun a σ₁=>W S d r env (RV S) (eval (.Name x2 p3) env) σ₁ (fun b σ₂=>W1 S d r env (R2 S) (RV S) (fun v':Value×Value=>subscriptTail v (.Name x2 p3) v'.1 v'.2) (a,b) σ₂ Q X) X) X:=A0s h1 hS (A9q hy (A6q h1 hS h2 (fun _ _=>rfl) h))
theorem A8l{x x2:Str}{p p2 p3 pos:Pos}{Q:AV→St→Prop}(hx:Has σ.nam σ.loc x (.ref .tree))(hy:Has σ.nam σ.loc x2 (.int n))(hS:t.S5)(h2:t.get n=some w)(h1:σ.tr=some t)(h:Q (.ref (.win n)) σ):W S d r env (RV S) (eval (.Subscript (.Attribute (.Name x p) (Str.ofString "windows") p2) (.Name x2 p3) pos) env) σ Q X:=A6i (A2c hx (A0s h1 hS (A9q hy (A6q h1 hS h2 (fun _ _=>rfl) h))))
theorem A9m{x x2:Str}{p p2 p3 pos:Pos}{Q:AV→St→Prop}(hx:Has σ.cnm σ.cel x (.ref .tree))(hy:Has σ.nam σ.loc x2 (.int n))(hS:t.S5)(h2:t.get n=some w)(h1:σ.tr=some t)(h:Q (.ref (.win n)) σ):W S d r env (RV S) (eval (.Subscript (.Attribute (.Name x p) (Str.ofString "windows") p2) (.Name x2 p3) pos) env) σ Q X:=A6i (B6t hx (A0s h1 hS (A9q hy (A6q h1 hS h2 (fun _ _=>rfl) h))))
theorem A5i{x:Str}{p p2 pos:Pos}{i:Int}{k a}{Q:AV→St→Prop}(hx:Has σ.nam σ.loc x a)(h:W1 S d r env (R2 S) (RV S) (fun v:Value×Value=>subscriptTail (.Name x p) (.Constant (.int i) k p2) v.1 v.2) (a,.int i) σ Q X):W S d r env (RV S) (eval (.Subscript (.Name x p) (.Constant (.int i) k p2) pos) env) σ Q X:=A6i (A9q hx (A0w h))
theorem A6e{x:Str}{p op e pos whole a}{Q:Bool→St→Prop}(hm:behindInMarks op e=false)(hx:Has σ.nam σ.loc x a)(h:W S d r env (RV S) (eval e env) σ (fun b σ₂=>
   W1 S d r env (R2 S) (RV S) (fun v:Value×Value=>compareOp op v.1 v.2) (a,b) σ₂ (fun c σ₃=>IsB c fun b=>Q b σ₃) X) X):W S d r env RB (isTrue (.Compare (.Name x p) [op] [e] pos) env whole) σ Q X:=A3k hm (A9q hx h)
theorem A6x{x:Str}{p f p2 op e pos whole a}{Q:Bool→St→Prop}(hm:behindInMarks op e=false)(hx:Has σ.nam σ.loc x a)(h:W1 S d r env (RV S) (RV S) (fun v=>getAttr v f true) a σ (fun a σ₁=>W S d r env (RV S) (eval e env) σ₁ (fun b σ₂=>
   W1 S d r env (R2 S) (RV S) (fun v:Value×Value=>compareOp op v.1 v.2) (a,b) σ₂ (fun c σ₃=>IsB c fun b=>Q b σ₃) X) X) X):W S d r env RB (isTrue (.Compare (.Attribute (.Name x p) f p2) [op] [e] pos) env whole) σ Q X:=A3k hm (A2c hx h)
theorem A6y{x:Str}{p:Pos}{a:AV}{name:Str}{pl:Sem Bool}{apos pos:Pos}{args:List Expr}{Q:AV→St→Prop}
  (he:eval (.Call (.Attribute (.Name x p) name apos) args [] pos) env=(do
   let ov ←eval (.Name x p) env
   standAt apos.atName
   let (f,first)←holding [ov] (getMethod ov name pl)
   callWith pos f first (backTo pos (starEach args env)) (backToKw pos (keywordEach [] env))))
  (hx:Has σ.nam σ.loc x a) (h:GM S d r env name pl pos args a σ Q X):W S d r env (RV S) (eval (.Call (.Attribute (.Name x p) name apos) args [] pos) env) σ Q X:=A6z he (A9q hx h)
theorem A6l{st:Stmt}{rest:List Stmt}{Q Q':AF→St→Prop}(h:let K:AF→St→Prop:=fun f σ₁=>B8q f σ₁ (fun σ₂=>W S d r env (RF S) (execs rest env) σ₂ Q X) Q;W S d r env (RF S) (exec st env) σ K X):B8q .next σ (fun σ₂=>W S d r env (RF S) (execs (st::rest) env) σ₂ Q X) Q':=A0h h
theorem A5u{Q Q':AF→St→Prop}(h:Q .next σ):B8q .next σ (fun σ₂=>W S d r env (RF S) (execs [] env) σ₂ Q X) Q':=A0x h
theorem eqb{i j:Int}{K:Bool→St→Prop}(h:K (i == j) σ):W1 S d r env (R2 S) (RV S) (fun v:Value×Value=>compareOp .Eq v.1 v.2) (.int i,.int j) σ (fun c σ₃=>IsB c fun b=>K b σ₃) X:=D3q (isb h)
theorem neb{i j:Int}{K:Bool→St→Prop}(h:K (i != j) σ):W1 S d r env (R2 S) (RV S) (fun v:Value×Value=>compareOp .NotEq v.1 v.2) (.int i,.int j) σ (fun c σ₃=>IsB c fun b=>K b σ₃) X:=D5w (isb h)
theorem tri{i:Int}{K:St→Prop}{Q:AV→St→Prop}(h:Q (.int i) σ):B8q (.ret (.int i)) σ K (fun f σ'=>A4r f σ' Q):=h
theorem A6g{x:Str}{p' value pos}{rest:List Stmt}{Q:AF→St→Prop}(hsw:swapsWith value (some (.Name x p')) pos.line env=pure false)(h:let K:St→Prop:=fun σ₂=>W S d r env (RF S) (execs rest env) σ₂ Q X;W S d r env (RV S) (eval value env) σ (fun a σ₁=>A9c σ₁ x a K) X):W S d r env (RF S) (execs (.Assign [.Name x p'] value pos::rest) env) σ Q X:=A4e (A5x hsw h)
theorem A8g{o f p' value pos}{rest:List Stmt}{Q:AF→St→Prop}(hsw:swapsWith value (some (.Attribute o f p')) pos.line env=pure false)(h:let K:St→Prop:=fun σ₂=>W S d r env (RF S) (execs rest env) σ₂ Q X;W S d r env (RV S) (eval value env) σ (fun a σ₁=>W S d r env (RV S) (eval o env) σ₁ (fun b σ₂=>
   W1 S d r env (R2 S) RU (fun v:Value×Value=>setAttr v.1 f v.2) (b,a) σ₂ (fun _=>K) X) X) X):W S d r env (RF S) (execs (.Assign [.Attribute o f p'] value pos::rest) env) σ Q X:=A4e (A4k hsw h)
theorem B1p{e pos}{rest:List Stmt}{Q:AF→St→Prop}(h:W S d r env (RV S) (eval e env) σ (fun a σ₁=>Q (.ret a) σ₁) X):W S d r env (RF S) (execs (.Return (some e) pos::rest) env) σ Q X:=A4e (A0u h)
theorem A4i{test body orelse pos}{rest:List Stmt}{Q:AF→St→Prop}(h:let K:AF→St→Prop:=fun f σ₁=>B8q f σ₁ (fun σ₂=>W S d r env (RF S) (execs rest env) σ₂ Q X) Q;W S d r env RB (isTrue test env (eval test env)) σ (fun b σ₁=>(b=true→W S d r env (RF S) (execs body env) σ₁ K X)∧(b=false→W S d r env (RF S) (execs orelse env) σ₁ K X)) X):W S d r env (RF S) (execs (.If test body orelse pos::rest) env) σ Q X:=A4e (C8z h)
section
variable {Q:AV→St→Prop}
theorem B5a(G:PG S){s:Int}(h:Q (.int (if s=2 then 0 else 1)) (St.mk (tr) dk nw rl tb fid nam loc tmp cfid cnm cel glb)):WC S (d+1) r env 189 [.int s] (St.mk (tr) dk nw rl tb fid nam loc tmp cfid cnm cel glb) Q X:=by
 refine C8m G fun L=>A0i G.c_ROW fun t1 e1=>A0i G.c_WIDTH fun t2 e2=>A0i G.c_HEIGHT fun t3 e3=>A0h ?_
 intro K9
 refine A0u (A6k (A6e rfl .head (A3p List.mem_cons_self (by assumption) (eqb (⟨fun hb=>?_,fun hb=>?_⟩)))))
 ·refine A3p (mi 1 rfl) (by assumption) (tri ?_)
  rw [if_pos (by simpa using hb)]at h;exact h
 ·refine A3p (mi 2 rfl) (by assumption) (tri ?_)
  rw [if_neg (by simpa using hb)]at h;exact h
theorem C0b(G:PG S){a:Int}(h:Q (.int (if a=0 then 2 else 1)) (St.mk (tr) dk nw rl tb fid nam loc tmp cfid cnm cel glb)):WC S (d+1) r env 196 [.int a] (St.mk (tr) dk nw rl tb fid nam loc tmp cfid cnm cel glb) Q X:=by
 refine B7t G fun L=>A0i G.c_ROW fun t1 e1=>A0i G.c_WIDTH fun t2 e2=>A0i G.c_COLUMN fun t3 e3=>A0h ?_
 intro K9
 refine A0u (A6k (A6e rfl .head (A3p List.mem_cons_self (by assumption) (eqb (⟨fun hb=>?_,fun hb=>?_⟩)))))
 ·refine A3p (mi 1 rfl) (by assumption) (tri ?_)
  rw [if_pos (by simpa using hb)]at h;exact h
 ·refine A3p (mi 2 rfl) (by assumption) (tri ?_)
  rw [if_neg (by simpa using hb)]at h;exact h
theorem B6q(G:PG S){a:Int}(h2:t.get n=some w)(h:Q (.int (if a=0 then w.width else w.height)) (St.mk (some t) dk nw rl tb fid nam loc tmp cfid cnm cel glb)):WC S (d+1) r env 76 [.ref (.win n),.int a] (St.mk (some t) dk nw rl tb fid nam loc tmp cfid cnm cel glb) Q X:=by
 refine B5r G fun L=>A0i G.c_WIDTH fun t2 e2=>A0h ?_
 intro K9
 refine A0u (A6k (A6e rfl (ix 1 rfl rfl) (A3p List.mem_cons_self (by assumption) (eqb (⟨fun hb=>?_,fun hb=>?_⟩)))))
 ·refine A2c .head (A4p rfl (by assumption) (tri ?_))
  rw [if_pos (by simpa using hb)]at h;exact h
 ·refine A2c .head (A3d rfl (by assumption) (tri ?_))
  rw [if_neg (by simpa using hb)]at h;exact h
theorem B4y(G:PG S){a:Int}(h2:t.get n=some w)(h:Q (.int (if a=0 then w.left else w.top)) (St.mk (some t) dk nw rl tb fid nam loc tmp cfid cnm cel glb)):WC S (d+1) r env 90 [.ref (.win n),.int a] (St.mk (some t) dk nw rl tb fid nam loc tmp cfid cnm cel glb) Q X:=by
 refine B4o G fun L=>A0i G.c_WIDTH fun t2 e2=>A0h ?_
 intro K9
 refine A0u (A6k (A6e rfl (ix 1 rfl rfl) (A3p List.mem_cons_self (by assumption) (eqb (⟨fun hb=>?_,fun hb=>?_⟩)))))
 ·refine A2c .head (B1v rfl (by assumption) (tri ?_))
  rw [if_pos (by simpa using hb)]at h;exact h
 ·refine A2c .head (B6k rfl (by assumption) (tri ?_))
  rw [if_neg (by simpa using hb)]at h;exact h
noncomputable def Win.setSize(w:Win)(a v:Int):Win:=if a=0 then w.s_width v else w.s_height v
theorem B1z(G:PG S){a v:Int}(h2:t.get n=some w)(h:Q .none (St.mk (some (t.put n (w.setSize a v))) dk nw rl tb fid nam loc tmp cfid cnm cel glb)):WC S (d+1) r env 83 [.ref (.win n),.int a,.int v] (St.mk (some t) dk nw rl tb fid nam loc tmp cfid cnm cel glb) Q X:=by
 refine B0y G fun L=>A0i G.c_WIDTH fun t2 e2=>?_
 unfold Win.setSize at h
 refine A4i ?_
 intro K9
 refine A6e rfl (ix 1 rfl rfl) (A3p List.mem_cons_self (by assumption) (eqb (⟨fun hb=>?_,fun hb=>?_⟩)))
 ·refine A8g rfl ?_
  intro K9
  refine A0d (ix 2 rfl rfl) (A0d .head (B8k (by assumption) (A0x (A5u (A1z ?_)))))
  rw [if_pos (by simpa using hb)]at h;exact h
 ·refine A8g rfl ?_
  intro K9
  refine A0d (ix 2 rfl rfl) (A0d .head (B3h (by assumption) (A0x (A5u (A1z ?_)))))
  rw [if_neg (by simpa using hb)]at h;exact h
theorem B2j(G:PG S){a:Int}(hS:t.stg=7)(h:Q (.int (if a=0 then t.lw else t.lh)) (St.mk (some t) dk nw rl tb fid nam loc tmp cfid cnm cel glb)):WC S (d+1) r env 168 [.ref .tree,.int a] (St.mk (some t) dk nw rl tb fid nam loc tmp cfid cnm cel glb) Q X:=by
 refine A7r G fun L=>A0i G.c_WIDTH fun t2 e2=>A0h ?_
 intro K9
 refine A0u (A6k (A6e rfl (ix 1 rfl rfl) (A3p List.mem_cons_self (by assumption) (eqb (⟨fun hb=>?_,fun hb=>?_⟩)))))
 ·refine A2c .head (A5g rfl (Tree.s5 (by assumption)) (tri ?_))
  rw [if_pos (by simpa using hb)]at h;exact h
 ·refine A2c .head (A4o rfl (Tree.s5 (by assumption)) (tri ?_))
  rw [if_neg (by simpa using hb)]at h;exact h
theorem C1m(G:PG S)(hS:t.S5)(h2:t.get n=some w)(h:Q .none (St.mk (some ((t.s_clock (t.clock+1)).put n (w.s_use (t.clock+1)))) dk nw rl tb fid nam loc tmp cfid cnm cel glb)):WC S (d+1) r env 154 [.ref .tree,.int n] (St.mk (some t) dk nw rl tb fid nam loc tmp cfid cnm cel glb) Q X:=by
 refine B0h G fun L=>A8g rfl ?_
 intro K9
 refine A0t (A2c .head (B7n rfl (by assumption) (A0w (B0a (A0d .head (D0u (by assumption) (A8g rfl ?_)))))))
 intro K9
 refine A2c .head (B7n rfl (Tree.S5.s_clock (by assumption)) (A8l .head (ix 1 rfl rfl) (Tree.S5.s_clock (by assumption)) ((Tree.get_s_clock _ _ _).trans (by assumption)) rfl (C3l ((Tree.get_s_clock _ _ _).trans (by assumption)) (A0x (A1z ?_)))))
 exact h
end
section
variable {Q:AV→St→Prop}
noncomputable def Win.shownAV(w:Win):AV:= .tup [.int w.buf,.int w.start,.int w.point,.int w.hscroll]
theorem B4v(G:PG S)(h2:t.get n=some w)(h:Q w.shownAV (St.mk (some t) dk nw rl tb fid nam loc tmp cfid cnm cel glb)):WC S (d+1) r env 97 [.ref (.win n)] (St.mk (some t) dk nw rl tb fid nam loc tmp cfid cnm cel glb) Q X:=by
 refine B4n G fun L=>A0h ?_
 intro K9
 refine A0u (A0z (A0b rfl (A2c .head (A6r rfl (by assumption) (A0b rfl (A2c .head (C1w rfl (by assumption) (A0b rfl (A2c .head (C1x rfl (by assumption) (A0b rfl (A2c .head (B6l rfl (by assumption) (A0g (⟨Nat.le_of_ble_eq_true rfl,?_⟩)))))))))))))))
 refine A0m (A6b ?_)
 exact h
noncomputable def Win.show4(w:Win)(a b c e:Int):Win:=(((w.s_buf a).s_start b).s_point c).s_hscroll e
theorem A6p(t:Tree)(n:Int)(w w':Win):(t.put n w).put n w'=t.put n w':=by
 unfold Tree.put;simp only [List.map_map];congr 1
 apply List.map_congr_left;intro p _;dsimp only [Function.comp];by_cases h:p.1=n <;> simp [h]
theorem C2e(G:PG S){a b c e:Int}(h2:t.get n=some w)(h:Q .none (St.mk (some (t.put n (w.show4 a b c e))) dk nw rl tb fid nam loc tmp cfid cnm cel glb)):WC S (d+1) r env 104 [.ref (.win n),.tup [.int a,.int b,.int c,.int e]] (St.mk (some t) dk nw rl tb fid nam loc tmp cfid cnm cel glb) Q X:=by
 refine B5s G fun L=>A0h ?_
 intro K9
 refine A2d rfl (by kernel_rfl) rfl rfl rfl (A0d (ix 1 rfl rfl) (C6m rfl (A4d (A0d .head (C2h (by assumption) (A4d (A0d .head (D0y (Tree.get_put_self (by assumption) _) (A4d (A0d .head (D0z (Tree.get_put_self (Tree.get_put_self (by assumption) _) _) (A4d (A0d .head (C6c (Tree.get_put_self (Tree.get_put_self (Tree.get_put_self (by assumption) _) _) _) (A8e ?_)))))))))))))))
 refine A5u (A1z ?_)
 rw [A6p,A6p,A6p]
 exact h
end
section
variable {Q:AV→St→Prop}
theorem B8h(G:PG S){so pa:Int}(hn:tr.bind (·.get n)=none)(h:Q .none (St.mk tr dk (some (n,16,Win.new so pa)) rl tb fid nam loc tmp cfid cnm cel glb)):WC S (d+1) r env 69 [.ref (.win n),.int n,.int so,.int pa] (St.mk tr dk (some (n,0,Win.new so pa)) rl tb fid nam loc tmp cfid cnm cel glb) Q X:=by
 refine B5t G fun L=>A8g rfl ?_
 intro K9
 refine A0d (ix 1 rfl rfl) (A0d .head (C1d hn (Nat.le_of_ble_eq_true rfl) (by decide) (by decide) rfl (A8g rfl ?_)))
 intro K9
 refine A0d (ix 2 rfl rfl) (A0d .head (C1d hn (Nat.le_of_ble_eq_true rfl) (by decide) (by decide) rfl (A8g rfl ?_)))
 intro K9
 refine A0d (ix 3 rfl rfl) (A0d .head (C1d hn (Nat.le_of_ble_eq_true rfl) (by decide) (by decide) rfl (A0h ?_)))
 intro K9
 refine D0m hn .head ⟨rfl,rfl⟩ (A0a (A8g rfl ?_))
 intro K9
 refine A0w (A0d .head (C1d hn (Nat.le_of_ble_eq_true rfl) (by decide) (by decide) rfl (A8g rfl ?_)))
 intro K9
 refine A0w (A0d .head (C1d hn (Nat.le_of_ble_eq_true rfl) (by decide) (by decide) rfl (A8g rfl ?_)))
 intro K9
 refine A0w (A0d .head (C1d hn (Nat.le_of_ble_eq_true rfl) (by decide) (by decide) rfl (A8g rfl ?_)))
 intro K9
 refine A0w (A0d .head (C1d hn (Nat.le_of_ble_eq_true rfl) (by decide) (by decide) rfl (A8g rfl ?_)))
 intro K9
 refine A0w (A0d .head (C1d hn (Nat.le_of_ble_eq_true rfl) (by decide) (by decide) rfl (A8g rfl ?_)))
 intro K9
 refine A0w (A0d .head (C1d hn (Nat.le_of_ble_eq_true rfl) (by decide) (by decide) rfl (A8g rfl ?_)))
 intro K9
 refine A0w (A0d .head (C1d hn (Nat.le_of_ble_eq_true rfl) (by decide) (by decide) rfl (A8g rfl ?_)))
 intro K9
 refine A0w (A0d .head (C1d hn (Nat.le_of_ble_eq_true rfl) (by decide) (by decide) rfl (A8g rfl ?_)))
 intro K9
 refine C1q (A0d .head (C1d hn (Nat.le_of_ble_eq_true rfl) (by decide) (by decide) rfl (A8g rfl ?_)))
 intro K9
 refine A0w (A0d .head (C1d hn (Nat.le_of_ble_eq_true rfl) (by decide) (by decide) rfl (A0h ?_)))
 intro K9
 refine A4k rfl (A5j (A0g (⟨Nat.le_of_ble_eq_true rfl,?_⟩)))
 refine A0d .head (C1d hn (Nat.le_of_ble_eq_true rfl) (by decide) (by decide) rfl (A6l ?_))
 intro K9
 refine A4k rfl (A5j (A0g (⟨Nat.le_of_ble_eq_true rfl,?_⟩)))
 refine A0d .head (C1d hn (Nat.lt_succ_self _) (by decide) (by decide) rfl (A5u (A1z ?_)))
 exact h
theorem C8v(G:PG S){so pa:Int}(hn:tr.bind (·.get n)=none)(h:Q (.ref (.win n)) (St.mk tr dk (some (n,16,Win.new so pa)) rl tb fid nam loc tmp cfid cnm cel glb)):WC S (d+2) r env S.CW [.int n,.int so,.int pa] (St.mk tr dk (none) rl tb fid nam loc tmp cfid cnm cel glb) Q X:=
 D1o (σ:=(St.mk tr dk (none) rl tb fid nam loc tmp cfid cnm cel glb)) G.k_Window.2.2.1 G.k_Window.2.2.2.1 G.k_Window.2.2.2.2 hn rfl (B8h G hn ⟨rfl,h⟩)
theorem C1o(G:PG S){so pa:Int}(hS:t.S5)(hn:t.get (t.last+1)=none)(hlen:t.wins.length≤1000)(h:Q (.ref (.win (t.last+1))) (St.mk (some ((t.s_last (t.last+1)).add (t.last+1) (Win.new so pa))) dk (none) rl tb fid nam loc tmp cfid cnm cel glb)):
  WC S (d+3) r env 133 [.ref .tree,.int so,.int pa] (St.mk (some t) dk (none) rl tb fid nam loc tmp cfid cnm cel glb) Q X:=by
 refine B0i G fun L=>A8g rfl ?_
 intro K9
 refine A0t (A2c .head (B7m rfl (by assumption) (A0w (B0a (A0d .head (D2z (by assumption) (A6g rfl ?_)))))))
 intro K9
 refine C6y G List.mem_cons_self rfl rfl (A0b rfl (A2c .head (B7m rfl (Tree.S5.s_last (by assumption)) (A3j (ix 1 rfl rfl) (ix 2 rfl rfl) (C8v G hn (A0k (.tail (.tail (.tail .head))) (A0h ?_)))))))
 intro K9
 refine A7b rfl (A0d (ix 3 rfl rfl) (A2c .head (A0s rfl (Tree.S5.s_last (by assumption)) (A2c .head (B7m rfl (Tree.S5.s_last (by assumption)) (C7y hS.s_last hn hlen (A0a (B1p (A0d (ix 3 rfl rfl) (B7o ?_))))))))))
 exact h
theorem C2d(G:PG S)(hS:t.S5)(h2:t.get n=some w)(h:Q (.ref (.win n)) (St.mk (some t) dk nw rl tb fid nam loc tmp cfid cnm cel glb)):WC S (d+1) r env 140 [.ref .tree,.int n] (St.mk (some t) dk nw rl tb fid nam loc tmp cfid cnm cel glb) Q X:=by
 refine A9n G fun L=>A6g rfl ?_
 intro K9
 refine A6z rfl (A2c .head (A0s rfl (by assumption) (C8g rfl hS (A0d (ix 1 rfl rfl) (A5w (B7l n rfl rfl rfl (A9c.sa (by rw [h2]) ?_)))))))
 dsimp only [B9l]
 refine A0k (.tail (.tail .head)) (A4i ?_)
 intro K9
 refine A6e rfl (ix 2 rfl rfl) (A5w (A8u (fun h=>by contradiction) (isb (⟨fun hb=>by exact k4 hb,fun _=>?_⟩))))
 refine A0x (A0a (B1p (A0d (ix 2 rfl rfl) (B7o ?_))))
 exact h
theorem C6b(G:PG S)(hS:t.S5)(h2:t.get n=some w)(h0:w.sort=0)(h:Q (.ref (.win n)) (St.mk (some t) dk nw rl tb fid nam loc tmp cfid cnm cel glb)):WC S (d+2) r env 147 [.ref .tree,.int n] (St.mk (some t) dk nw rl tb fid nam loc tmp cfid cnm cel glb) Q X:=by
 refine B0z G fun L=>A0i G.c_LEAF fun t1 e1=>A6g rfl ?_
 intro K9
 refine A6y rfl .head (A6o G (by assumption) rfl rfl (A2s (ix 1 rfl rfl) (C2d G hS h2 (A0k (.tail (.tail .head)) (A4i ?_)))))
 intro K9
 refine A6x rfl (ix 2 rfl rfl) (A4g rfl (by assumption) (A3p List.mem_cons_self (by assumption) (neb (⟨fun hb=>by simp [h0]at hb,fun _=>?_⟩))))
 refine A0x (A0a (B1p (A0d (ix 2 rfl rfl) (B7o ?_))))
 exact h
theorem B8f(G:PG S)(hS:t.stg=7)(h2:t.get n=some w)(h0:w.sort=0)(h:Q .none (St.mk (some (((t.s_sel n).s_clock (t.clock+1)).put n (w.s_use (t.clock+1)))) dk nw rl tb fid nam loc tmp cfid cnm cel glb)):WC S (d+3) r env 161 [.ref .tree,.int n] (St.mk (some t) dk nw rl tb fid nam loc tmp cfid cnm cel glb) Q X:=by
 refine A9o G fun L=>A8g rfl ?_
 intro K9
 refine A3q rfl (A6y rfl .head (A5c G (Tree.s5 (by assumption)) rfl rfl (A2s (ix 1 rfl rfl) (C6b G (Tree.s5 hS) h2 h0 (A2q rfl (by assumption) (A0d .head (C3d (by assumption) (A0h ?_))))))))
 intro K9
 refine A2g rfl rfl (A6y rfl .head (A4l G (Tree.S5.s_sel (Tree.s5 (by assumption))) rfl rfl (A2s (ix 1 rfl rfl) (C1m G (Tree.s5 hS).s_sel h2 (⟨trivial,?_⟩)))))
 refine A5u (A1z ?_)
 exact h
end
inductive Sh where
 |mk (n:Int) (kids:List Sh)
noncomputable def Sh.num:Sh→Int| .mk n _=>n
noncomputable def Sh.kids:Sh→List Sh| .mk _ l=>l
mutual
noncomputable def Sh.leaves:Sh→List Int
 | .mk n []=> [n]
 | .mk _ (k::ks)=>k.leaves++Sh.leavesL ks
noncomputable def Sh.leavesL:List Sh→List Int
 | []=> []
 |k::ks=>k.leaves++Sh.leavesL ks
end
theorem Sh.leavesL.e0:Sh.leavesL []=([]):=rfl
theorem Sh.leavesL.e1{k ks}:Sh.leavesL (k::ks)=(k.leaves++Sh.leavesL ks):=rfl
theorem Sh.leaves.e0{n}:Sh.leaves (.mk n [])=([n]):=rfl
theorem Sh.leaves.e1{u09 k ks}:Sh.leaves (.mk u09 (k::ks))=(k.leaves++Sh.leavesL ks):=rfl
mutual
noncomputable def Sh.all:Sh→List Int
 | .mk n ks=>n::Sh.allL ks
noncomputable def Sh.allL:List Sh→List Int
 | []=> []
 |k::ks=>k.all++Sh.allL ks
end
theorem Sh.allL.e0:Sh.allL []=([]):=rfl
theorem Sh.allL.e1{k ks}:Sh.allL (k::ks)=(k.all++Sh.allL ks):=rfl
theorem Sh.all.e0{n ks}:Sh.all (.mk n ks)=(n::Sh.allL ks):=rfl
mutual
noncomputable def Sh.Rep(t:Tree):Sh→Prop
 | .mk n ks=>(∃w,t.get n=some w∧w.kids=ks.map Sh.num∧(w.sort=0↔ks= []))∧Sh.RepL t ks
noncomputable def Sh.RepL(t:Tree):List Sh→Prop
 | []=>True
 |k::ks=>k.Rep t∧Sh.RepL t ks
end
theorem Sh.RepL.e0{t:Tree}:Sh.RepL t []=(True):=rfl
theorem Sh.RepL.e1{t:Tree}{k ks}:Sh.RepL t (k::ks)=(k.Rep t∧Sh.RepL t ks):=rfl
theorem Sh.Rep.e0{t:Tree}{n ks}:Sh.Rep t (.mk n ks)=((∃w,t.get n=some w∧w.kids=ks.map Sh.num∧(w.sort=0↔ks= []))∧Sh.RepL t ks):=rfl
theorem Sh.leavesL_app(a b:List Sh):Sh.leavesL (a++b)=Sh.leavesL a++Sh.leavesL b:=by
 induction a with
 |nil=>rfl
 |cons x a ih=>simp [Sh.leavesL.e0,Sh.leavesL.e1,ih]
theorem Sh.allL_app(a b:List Sh):Sh.allL (a++b)=Sh.allL a++Sh.allL b:=by
 induction a with
 |nil=>rfl
 |cons x a ih=>simp [Sh.allL.e0,Sh.allL.e1,ih]
theorem Sh.repL_app{t:Tree}{a b:List Sh}:Sh.RepL t (a++b)↔Sh.RepL t a∧Sh.RepL t b:=by
 induction a with
 |nil=>simp [Sh.RepL.e0,Sh.RepL.e1]
 |cons x a ih=>simp [Sh.RepL.e0,Sh.RepL.e1,ih,and_assoc]
theorem Sh.leaves_cons{n:Int}{ks:List Sh}(h:ks≠ []):(Sh.mk n ks).leaves=Sh.leavesL ks:=by
 cases ks with
 |nil=>exact absurd rfl h
 |cons k ks=>rfl
theorem Sh.len_all_pos(s:Sh):0<s.all.length:=by cases s;simp [Sh.all.e0]
theorem Sh.len_le(l:List Sh):l.length≤(Sh.allL l).length:=by
 induction l with
 |nil=>exact Nat.zero_le _
 |cons k l ih=>have:=k.len_all_pos;simp only [Sh.allL.e0,Sh.allL.e1,List.length_append,List.length_cons];lia
mutual
theorem Sh.leaves_le: ∀s:Sh,s.leaves.length≤s.all.length
 | .mk n []=>by exact Nat.le_refl _
 | .mk n (k::ks)=>by
  have h1:=Sh.leaves_le k;have h2:=Sh.leavesL_le ks
  simp only [Sh.leaves.e0,Sh.leaves.e1,Sh.all.e0,Sh.allL.e0,Sh.allL.e1,List.length_append,List.length_cons];lia
theorem Sh.leavesL_le: ∀l:List Sh,(Sh.leavesL l).length≤(Sh.allL l).length
 | []=>by exact Nat.zero_le _
 |k::ks=>by
  have h1:=Sh.leaves_le k;have h2:=Sh.leavesL_le ks
  simp only [Sh.leavesL.e0,Sh.leavesL.e1,Sh.allL.e0,Sh.allL.e1,List.length_append];exact Nat.add_le_add h1 h2
end
section
variable {Q:AV→St→Prop}
theorem A7o(G:PG S){sh:Sh}(hS:t.S5)(hR:sh.Rep t)(hN:sh.all.length≤1000)(h:Q (.lst (sh.leaves.map .int)) (St.mk (some t) dk nw rl tb fid nam loc tmp cfid cnm cel glb)):WC S (d+1) r env 203 [.ref .tree,.int sh.num] (St.mk (some t) dk nw rl tb fid nam loc tmp cfid cnm cel glb) Q X:=by
 refine B4k G fun L=>A0i G.c_LEAF fun t1 e1=>A0h ?_
 intro K9
 refine A6j (A0g (⟨Nat.le_of_ble_eq_true rfl,?_⟩))
 refine C5c (.tail (.tail .head)) (A6l ?_)
 intro K9
 refine A6j (A2s (ix 1 rfl rfl) (⟨Nat.le_of_ble_eq_true rfl,?_⟩))
 refine D2f (.tail (.tail (.tail .head))) (A6l ?_)
 intro K9
 let I9:List Sh→St→Prop:=fun ws σ'=> ∃(dn:List Int) (hv:Option AV),σ'=St.mk (some t) dk nw rl tb L ["tree","number","found","waiting","here"] [some (.ref .tree),some (.int sh.num),some (.ref (.tmp L 0)),some (.ref (.tmp L 1)),hv] [some (.list (dn.map .int)),some (.list ((ws.map Sh.num).reverse.map .int))] L [] [] ["LEAF"]∧
  Sh.RepL t ws∧dn++Sh.leavesL ws=sh.leaves∧dn.length+ (Sh.allL ws).length≤1000
 refine B6r I9 (fun ws=>(Sh.allL ws).length) (L:= [sh]) ⟨[],none,by rfl,⟨hR,trivial⟩,by simp [Sh.leavesL.e0,Sh.leavesL.e1],by simpa [Sh.allL.e0,Sh.allL.e1]using hN⟩ ?_ ?_ ?_
 ·intro ws σ' h9
  refine B5v h9 fun dn hv y9a hws hd hb=>?_
  obtain rfl:=y9a
  refine A6e rfl (ix 3 rfl rfl) (A5j (A0g (⟨Nat.le_of_ble_eq_true rfl,?_⟩)))
  refine A3t C5i (isb ?_)
  exact⟨by cases ws <;> simp,rfl⟩
 ·intro s ws σ' K9 h9
  refine B5v h9 fun dn hv y9a hws hd hb=>?_
  try clear h9
  obtain rfl:=y9a
  ·obtain ⟨k,ks⟩:=s
   obtain ⟨⟨w,g1,g2,g3⟩,hks⟩:(∃w,t.get k=some w∧w.kids=ks.map Sh.num∧(w.sort=0↔ks= []))∧Sh.RepL t ks:=by have:=hws.1;simpa only [Sh.Rep.e0]using this
   have hlw:(ws.map Sh.num).length≤100000:=by have:=Sh.len_le ws;simp only [Sh.allL.e0,Sh.allL.e1,Sh.all.e0,List.length_append,List.length_cons]at hb;rw [List.length_map];exact Z16 this hb
   refine A6g rfl ?_
   intro K9
   refine A6i (A2c .head (A0s rfl (by assumption) (A6y rfl (ix 3 rfl rfl) ?_)))
   have e0:(List.map AV.int (List.map Sh.num (Sh.mk k ks::ws)).reverse)=(ws.map Sh.num).reverse.map .int++ [.int k]:=by simp [Sh.num]
   rw [e0]
   refine C8f C6q (by simpa using hlw) (A6q rfl (by assumption) (by assumption) (fun _ _=>rfl) (A0k (.tail (.tail (.tail (.tail .head)))) (A4i ?_)))
   intro K9
   refine A6x rfl (ix 4 rfl rfl) (A4g rfl (by assumption) (A3p List.mem_cons_self (by assumption) (eqb (⟨fun hl=>?_,fun hl=>?_⟩))))
   ·refine A0h ?_
    intro K9
    refine A2g rfl rfl (A6y rfl (ix 2 rfl rfl) (B3a rfl C8d (A2c (ix 4 rfl rfl) (A2q rfl (by assumption) (D3t C2m ?_ ?_)))))
    ·rw [List.length_map];exact Z17 hb
    refine⟨trivial,?_⟩
    refine A5u (A5u (A0a ?_))
    have hk0:ks= []:=g3.mp (by simpa using hl)
    subst hk0
    refine A1f ws (Nat.lt_succ_self _) (B9r (dn++ [k]) (some (.ref (.win k))) (by simp) hws.2 ?_ ?_)
    ·refine Eq.trans ?_ (hd).symm.symm;simp [Sh.leavesL.e0,Sh.leavesL.e1,Sh.leaves.e0,Sh.leaves.e1]
    ·simp [Sh.allL.e0,Sh.allL.e1,Sh.all.e0]at hb ⊢;lia
   ·refine A0h ?_
    intro K9
    refine A2g rfl rfl (A6y rfl (ix 3 rfl rfl) (C1y rfl D2u (C9m (A2c (ix 4 rfl rfl) (A2f rfl (by assumption) ?_)))))
    have hk0:ks≠ []:=fun e=>by simp [g3.mpr e]at hl
    refine A8n _ (B0c g1) ?_ ?_
    ·rw [g2];simp only [List.length_map];have:=Sh.len_le ks;simp only [Sh.allL.e0,Sh.allL.e1,Sh.all.e0,List.length_append,List.length_cons]at hb;exact Z18 this hb
    refine D5k C6q (by simpa using hlw) ?_ ?_
    ·rw [g2];simp only [List.length_map,List.length_reverse];have:=Sh.len_le ks;simp only [Sh.allL.e0,Sh.allL.e1,Sh.all.e0,List.length_append,List.length_cons]at hb;exact Z18 this hb
    refine⟨trivial,?_⟩
    refine A5u (A5u (A0a (A1f (ks++ws) ?_ (B9r dn (some (.ref (.win k))) ?_ (Sh.repL_app.mpr ⟨hks,hws.2⟩) ?_ ?_))))
    ·simp [Sh.allL.e0,Sh.allL.e1,Sh.all.e0,Sh.allL_app]
    ·rw [g2];simp
    ·simp only [←hd,Sh.leavesL_app];simp [Sh.leavesL.e0,Sh.leavesL.e1,Sh.leaves_cons hk0]
    ·simp [Sh.allL.e0,Sh.allL.e1,Sh.all.e0,Sh.allL_app]at hb ⊢;exact Nat.le_of_lt hb
 ·intro σ' h9
  refine B5v h9 fun dn hv y9a hws hd hb=>?_
  obtain rfl:=y9a
  ·refine A0a (B1p (A0d (ix 2 rfl rfl) (C1z ?_)))
   simp only [Sh.leavesL.e0,Sh.leavesL.e1,List.append_nil]at hd
   rw [hd]
   exact h
end
section
variable {Q:AV→St→Prop}
theorem A3a(G:PG S){sh:Sh}(hS:t.stg=7)(hr:t.root=sh.num)(hR:sh.Rep t)(hN:sh.all.length≤1000)(h:Q (.lst (sh.leaves.map .int)) (St.mk (some t) dk nw rl tb fid nam loc tmp cfid cnm cel glb)):WC S (d+2) r env 210 [.ref .tree] (St.mk (some t) dk nw rl tb fid nam loc tmp cfid cnm cel glb) Q X:=by
 refine C5v G fun L=>B1p (A7m G List.mem_cons_self rfl rfl (A4y .head (A0b rfl (A2c .head (B1u rfl (by assumption) (A0g ?_))))))
 rw [hr]
 refine A7o G (Tree.s5 hS) hR hN (B3d ?_)
 exact h
theorem A9a(G:PG S){sh:Sh}(hS:t.S5)(hR:sh.Rep t)(hN:sh.all.length≤1000)(h:Q (.lst (sh.all.map .int)) (St.mk (some t) dk nw rl tb fid nam loc tmp cfid cnm cel glb)):WC S (d+1) r env 217 [.ref .tree,.int sh.num] (St.mk (some t) dk nw rl tb fid nam loc tmp cfid cnm cel glb) Q X:=by
 refine B2p G fun L=>A0h ?_
 intro K9
 refine A6j (A0g (⟨Nat.le_of_ble_eq_true rfl,?_⟩))
 refine C5c (.tail (.tail .head)) (A6l ?_)
 intro K9
 refine A6j (A2s (ix 1 rfl rfl) (⟨Nat.le_of_ble_eq_true rfl,?_⟩))
 refine D2f (.tail (.tail (.tail .head))) (A6l ?_)
 intro K9
 let I9:List Sh→St→Prop:=fun ws σ'=> ∃(dn:List Int) (hv:Option AV),σ'=St.mk (some t) dk nw rl tb L ["tree","number","found","waiting","here"] [some (.ref .tree),some (.int sh.num),some (.ref (.tmp L 0)),some (.ref (.tmp L 1)),hv] [some (.list (dn.map .int)),some (.list ((ws.map Sh.num).reverse.map .int))] L [] [] []∧
  Sh.RepL t ws∧dn++Sh.allL ws=sh.all∧dn.length+ (Sh.allL ws).length≤1000
 refine B6r I9 (fun ws=>(Sh.allL ws).length) (L:= [sh]) ⟨[],none,by rfl,⟨hR,trivial⟩,by simp [Sh.allL.e0,Sh.allL.e1],by simpa [Sh.allL.e0,Sh.allL.e1]using hN⟩ ?_ ?_ ?_
 ·intro ws σ' h9
  refine B5v h9 fun dn hv y9a hws hd hb=>?_
  obtain rfl:=y9a
  refine A6e rfl (ix 3 rfl rfl) (A5j (A0g (⟨Nat.le_of_ble_eq_true rfl,?_⟩)))
  refine A3t C5i (isb ?_)
  exact⟨by cases ws <;> simp,rfl⟩
 ·intro s ws σ' K9 h9
  refine B5v h9 fun dn hv y9a hws hd hb=>?_
  try clear h9
  obtain rfl:=y9a
  ·obtain ⟨k,ks⟩:=s
   obtain ⟨⟨w,g1,g2,g3⟩,hks⟩:(∃w,t.get k=some w∧w.kids=ks.map Sh.num∧(w.sort=0↔ks= []))∧Sh.RepL t ks:=by have:=hws.1;simpa only [Sh.Rep.e0]using this
   have hlw:(ws.map Sh.num).length≤100000:=by have:=Sh.len_le ws;simp only [Sh.allL.e0,Sh.allL.e1,Sh.all.e0,List.length_append,List.length_cons]at hb;rw [List.length_map];exact Z16 this hb
   have hlk:=Sh.len_le ks
   refine A6g rfl ?_
   intro K9
   refine A6i (A2c .head (A0s rfl (by assumption) (A6y rfl (ix 3 rfl rfl) ?_)))
   have e0:(List.map AV.int (List.map Sh.num (Sh.mk k ks::ws)).reverse)=(ws.map Sh.num).reverse.map .int++ [.int k]:=by simp [Sh.num]
   rw [e0]
   refine C8f C6q (by simpa using hlw) (A6q rfl (by assumption) (by assumption) (fun _ _=>rfl) (A0k (.tail (.tail (.tail (.tail .head)))) (A0h ?_)))
   intro K9
   refine A2g rfl rfl (A6y rfl (ix 2 rfl rfl) (B3a rfl C8d (A2c (ix 4 rfl rfl) (A2q rfl (by assumption) (D3t C2m ?_ ?_)))))
   ·rw [List.length_map];exact Z17 hb
   refine⟨trivial,?_⟩
   refine A6l ?_
   intro K9
   refine A2g rfl rfl (A6y rfl (ix 3 rfl rfl) (C1y rfl D2u (C9m (A2c (ix 4 rfl rfl) (A2f rfl (by assumption) (A8n _ (B0c g1) ?_ ?_))))))
   ·rw [g2];simp only [List.length_map];simp only [Sh.allL.e0,Sh.allL.e1,Sh.all.e0,List.length_append,List.length_cons]at hb;exact Z18 hlk hb
   refine D5k C6q (by simpa using hlw) ?_ ?_
   ·rw [g2];simp only [List.length_map,List.length_reverse];simp only [Sh.allL.e0,Sh.allL.e1,Sh.all.e0,List.length_append,List.length_cons]at hb;exact Z18 hlk hb
   refine⟨trivial,?_⟩
   refine A5u (A0a (A1f (ks++ws) ?_ (B9r (dn++ [k]) (some (.ref (.win k))) ?_ (Sh.repL_app.mpr ⟨hks,hws.2⟩) ?_ ?_)))
   ·simp [Sh.allL.e0,Sh.allL.e1,Sh.all.e0,Sh.allL_app]
   ·rw [g2];simp
   ·simp only [←hd,Sh.allL_app];simp [Sh.allL.e0,Sh.allL.e1,Sh.all.e0]
   ·simp [Sh.allL.e0,Sh.allL.e1,Sh.all.e0,Sh.allL_app]at hb ⊢;lia
 ·intro σ' h9
  refine B5v h9 fun dn hv y9a hws hd hb=>?_
  obtain rfl:=y9a
  ·refine A0a (B1p (A0d (ix 2 rfl rfl) (C1z ?_)))
   simp only [Sh.allL.e0,Sh.allL.e1,List.append_nil]at hd
   rw [hd]
   exact h
noncomputable def Tree.use(t:Tree)(n:Int):Int:=((t.get n).map (·.use)).getD 0
noncomputable def A0l(t:Tree):Int→List Int→Int
 |f,[]=>f
 |f,n::l=>A0l t (if f=0∨t.use n<t.use f then n else f) l
theorem A0l.e0{t:Tree}{f}:A0l t f []=(f):=rfl
theorem A0l.e1{t:Tree}{f n l}:A0l t f (n::l)=(A0l t (if f=0∨t.use n<t.use f then n else f) l):=rfl
noncomputable def Tree.Has(t:Tree)(n:Int):Prop:= ∃w,t.get n=some w
theorem B1d(G:PG S){l:List Int}(hS:t.S5)(hl: ∀n∈l,t.Has n)(h:Q (.int (A0l t 0 l)) (St.mk (some t) dk nw rl tb fid nam loc tmp cfid cnm cel glb)):WC S (d+1) r env 28 [.ref .tree,.lst (l.map .int)] (St.mk (some t) dk nw rl tb fid nam loc tmp cfid cnm cel glb) Q X:=by
 refine B5q G fun L=>?_
 refine A6g rfl ?_
 intro K9
 refine A0w ?_
 refine A0k (.tail (.tail .head)) ?_
 refine A0h ?_
 intro K9
 refine B1l (fun _=>rfl) ?_
 refine A0d (ix 1 rfl rfl) ?_
 refine D1i ?_
 let I9:List Int→St→Prop:=fun m' σ'=> ∃(f:Int) (nv:Option AV),σ'=St.mk (some t) dk nw rl tb L ["tree","numbers","found","number"] [some (.ref .tree),some (.lst (l.map .int)),some (.int f),nv] [] L [] [] []∧
  (∀n∈m',t.Has n)∧(f=0∨t.Has f)∧A0l t f m'=A0l t 0 l
 refine A9l I9 rfl ⟨0,none,rfl,hl,.inl rfl,rfl⟩ ?_ ?_
 ·intro k m' σ' K9 h9
  refine B5v h9 fun f nv y9a hall hf e=>?_
  try clear h9
  obtain rfl:=y9a
  refine A0i (hall k (.head _)) fun w g1=>?_
  refine A0k (.tail (.tail (.tail .head))) ?_
  refine A4i ?_
  intro K9
  refine B5c ?_
  refine A6e rfl (ix 2 rfl rfl) ?_
  refine A0w ?_
  refine eqb ?_
  refine⟨fun hb=>?_,fun hb=>?_⟩
  ·skip
   refine⟨fun _=>?_,(fun h=>nomatch h)⟩
   refine A6g rfl ?_
   intro K9
   refine A0d (ix 3 rfl rfl) ?_
   refine A0k (.tail (.tail .head)) ?_
   refine A0x ?_
   refine A5u ?_
   refine A0a ?_
   refine B9r k _ rfl (fun n hn=>hall n (.tail _ hn)) (.inr ⟨w,g1⟩) ?_
   refine Eq.trans ?_ (e).symm.symm;simp only [A0l.e0,A0l.e1];rw [if_pos (.inl (by simpa using hb))]
  ·refine A0i (hf.resolve_left (by simpa using hb)) fun w' g2=>?_
   refine B5c ?_
   refine A3k rfl ?_
   refine A3q rfl ?_
   refine A8l .head (ix 3 rfl rfl) (by assumption) (by assumption) rfl ?_
   refine B0g rfl (by assumption) ?_
   refine A3q rfl ?_
   refine A8l .head (ix 2 rfl rfl) (by assumption) (by assumption) rfl ?_
   refine B0g rfl (by assumption) ?_
   refine D1g ?_
   refine isb ?_
   refine⟨fun hb2=>?_,fun hb2=>?_⟩
   ·skip
    refine⟨fun _=>?_,(fun h=>nomatch h)⟩
    refine A6g rfl ?_
    intro K9
    refine A0d (ix 3 rfl rfl) ?_
    refine A0k (.tail (.tail .head)) ?_
    refine A0x ?_
    refine A5u ?_
    refine A0a ?_
    refine B9r k _ rfl (fun n hn=>hall n (.tail _ hn)) (.inr ⟨w,g1⟩) ?_
    refine Eq.trans ?_ (e).symm.symm;simp only [A0l.e0,A0l.e1];rw [if_pos (.inr (by simpa [Tree.use,g1,g2]using hb2))]
   ·refine A5y ?_
    refine⟨(fun h=>nomatch h),fun _=>?_⟩
    refine A0x ?_
    refine A5u ?_
    refine A0a ?_
    refine B9r f _ rfl (fun n hn=>hall n (.tail _ hn)) (.inr ⟨w',g2⟩) ?_
    refine Eq.trans ?_ (e).symm.symm;simp only [A0l.e0,A0l.e1]
    rw [if_neg (fun q=>q.elim (fun q=>by simp [q]at hb) fun q=>by simp [Tree.use,g1,g2]at q hb2;exact Z19 q hb2)]
 ·intro σ' h9
  refine B5v h9 fun f nv y9a hall hf e=>?_
  try clear h9
  obtain rfl:=y9a
  refine A0a ?_
  refine B1p ?_
  refine A0d (ix 2 rfl rfl) ?_
  refine A6c ?_
  rw [show f=A0l t f [] from rfl,e]
  exact h
end
section
variable {P P':Key→Prop} {z z':Gh} {y:Gy} {Φ Φ':Key→Addr} {s s':Shared}
structure BK (S:SP):Prop where
 bm: ∃bm ob,S.mg "__builtins__"=some (.ref bm)∧bm≠builtinsNs∧S.base.get? bm=some ob∧ob.cls= .type "module"∧ob.dict=some builtinsNs∧ob.data= .plain
noncomputable def C9f(h:Heap)(L:Nat):Heap:={objs:=h.objs.extract 0 L}
theorem B3e{h:Heap}{L b:Nat}:(C9f h L).get? b=if b<L then h.get? b else none:=by
 unfold C9f Heap.get?
 by_cases hb:b<L
 ·refine Eq.trans ?_ (if_pos hb).symm
  have:(h.objs.extract 0 L)[b]? =h.objs[b]?:=by
   refine(Array.getElem?_extract).trans ?_
   by_cases hs:b<h.objs.size
   ·refine (if_pos (by lia)).trans ?_;simp
   ·rw [if_neg (by lia),Array.getElem?_eq_none (Nat.le_of_not_lt hs)]
  rw [this]
 ·refine Eq.trans ?_ (if_neg hb).symm
  have:(h.objs.extract 0 L)[b]? =none:=by
   exact((Array.getElem?_extract).trans (if_neg (by lia)))
  rw [this]
noncomputable def C6v(h:Heap)(L:Nat):List (Addr×Obj):=(List.range h.objs.size).filterMap fun a=>if a≤L then none else(h.get? a).map fun o=>(a,o)
theorem B4a{h:Heap}{L:Nat}{p:Addr×Obj}:p∈C6v h L↔L<p.1∧h.get? p.1=some p.2:=by
 unfold C6v
 refine(List.mem_filterMap).trans ?_
 constructor
 ·rintro ⟨a,ha,e⟩
  by_cases q:a≤L
  ·rw [if_pos q]at e;exact k1 e
  ·rw [if_neg q]at e
   refine A0e (Option.map_eq_some_iff.mp e) fun o e1 e2=>?_
   subst e2;exact⟨by show L<a;exact Nat.lt_of_not_le q,e1⟩
 ·rintro ⟨h1,h2⟩
  refine A1f p.1 (List.mem_range.mpr (Heap.lt_size h2)) ?_
  rw [if_neg (by have:L<p.1:=h1;exact Nat.not_le.mpr h1),h2];rfl
theorem D2x{h:Heap}{L:Addr}{m:Str→Option Value}(hn:h.Ns L m):Fr (C9f h L) L h m:=
 ⟨hn,fun b o e=>(by rw [B3e]at e;split at e;exact e;exact k1 e),by unfold C9f;rw [Array.size_extract];exact Nat.min_le_left _ _⟩
theorem C7j{h:Heap}{L:Addr}:News (C9f h L) L h (C6v h L):=fun p hp=>by
 refine A0f (B4a.mp hp) fun h1 h2=>A4x h2 (Nat.ne_of_gt h1) ?_
 exact((B3e).trans (if_neg (Nat.lt_asymm h1)))
theorem C2c{h h':Heap}{L:Addr}{m:Str→Option Value}{own:List (Addr×Obj)}(F:Fr (C9f h L) L h' m)(N:News (C9f h L) L h' own)(hsub: ∀p∈C6v h L,p∈own): ∀b o,b≠L→h.get? b=some o→h'.get? b=some o:=fun b o hb e=>by
 rcases Nat.lt_trichotomy b L with q|q|q
 ·exact F.keep b o (by refine((B3e).trans (if_pos q)).trans ?_;exact e)
 ·exact absurd q hb
 ·exact (N (b,o) (hsub _ (B4a.mpr ⟨q,e⟩))).1
theorem Sim.cut(hs:Sim S env σ P z y Φ s){m:Str→Option Value}(hm: ∀(i:Nat) (x:Str) (av:AV),σ.nam[i]? =some x→σ.loc[i]? =some (some av)→ ∃v,m x=some v∧A1i S P z Φ av v){h':Heap}{tk:Tok}(hn:h'.Ns env.locals m)
  (hk: ∀b o,b≠env.locals→s.heap.get? b=some o→h'.get? b=some o):Sim S env σ P z y Φ {s with heap:=h',toks:=tk}:=by
 refine A8c (id hn) fun o es ep e r=>hs.setobj (σ':=σ) (q:= .loc σ.fid) (oo:=o) A1l (fun b o hb e=>hk b o (by simp only [←hs.loc];exact hb) e) (by refine(congrArg _ (hs.loc)).trans ?_;exact e) (o:= .locs σ.nam σ.loc) ⟨m,by rw [hs.loc];exact hn,hm⟩ (fun _ _=>rfl) A1l ⟨rfl,rfl,rfl,rfl,rfl,rfl,rfl⟩ hs.pin
noncomputable def C7t(p6:Pos):Arguments:={posonlyargs:= [],args:= [{arg:=Str.ofString "own",annotation:=none,pos:=p6}],vararg:=none,kwonlyargs:= [],kw_defaults:= [],kwarg:=none,defaults:= []}
noncomputable def C7u(p1 p2 p3 p4 p5:Pos):Expr:= .Attribute (.Subscript (.Attribute (.Name (Str.ofString "tree") p1) (Str.ofString "windows") p2) (.Name (Str.ofString "own") p3) p4) (Str.ofString "use_time") p5
noncomputable def C3q:Scope:={kind:= .function,names:= [(Str.ofString "own",.local),(Str.ofString "tree",.free)],isGenerator:=false,isCoroutine:=false}
theorem C8s{A:Around}{E:Value→Shared→Prop}{t:Tree}{n:Int}{w:Win}{f c':Addr}{qual:Str}{pm ctv:Value}{p1 p2 p3 p4 p5 p6:Pos}{tk:Tok}{K:Value→Shared→Prop}(hA:A.depth<recursionLimit)(hs:Sim S env σ P z y Φ s)(h1:σ.tr=some t)(hS:t.S5)(h2:t.get n=some w)(hc:σ.cel[0]? =some (some (.ref .tree)))
  (ho:s.heap.get? f=some (kla_obj "<lambda>" qual (C7t p6) (C7u p1 p2 p3 p4 p5) C3q [(Str.ofString "tree",Φ (.cel σ.cfid 0))] pm c' ctv)) (hcd:s.heap.CodeRec (.ref c') qual)
  (k: ∀h' tk' t',(∀b o,s.heap.get? b=some o→h'.get? b=some o)→K (.int w.use t') {s with heap:=h',toks:=tk'}):
  wpAny (model S.prog S.w) A (call (.ref f) [.int n tk]) K E s:=by
 refine wpAny_call (kla_callFunE hA ho rfl rfl rfl rfl hcd ?_)
 rw [show bindArgs (kla_fn "<lambda>" qual (C7t p6) (C7u p1 p2 p3 p4 p5) C3q [(Str.ofString "tree",Φ (.cel σ.cfid 0))] pm (.ref c') ctv) ⟨[.int n tk],[]⟩=pure [(Str.ofString "own",.int n tk)] from by with_unfolding_all rfl]
 refine wpAny_pure (wpAny_newFunctionEnv (by show ∀x∈C3q.names,x.2≠ .cell;decide) (by intro y hy;rw [List.mem_singleton.mp hy];rfl) (fun h₁ hns hsb=>?_) rfl)
 have hk₁: ∀b o,s.heap.get? b=some o→h₁.get? b=some o:=fun b o e=>hsb.extBut b o (Nat.ne_of_lt (Heap.lt_size e)) (Heap.get?_push_of_some _ e)
 refine⟨((hs.ok.lim).keeps hs.keep).fresh _ hsb,?_⟩
 generalize hL:s.heap.objs.size=L at hns hsb ⊢
 refine kla_codeExpr ?_
 have hs₁:=hs.grow h₁ (s.toks+ [(Str.ofString "own",Value.int n tk)].length) s.drawn hk₁
 generalize s.toks+ [(Str.ofString "own",Value.int n tk)].length=tk1 at hs₁ ⊢
 refine A0e (hs₁.core.rep (.cel σ.cfid 0) (.cell (some (.ref .tree))) (by simp [St.obj,hc])) fun u hu y9a=>A0e y9a fun v y9b hv=>?_
 obtain rfl:=y9b
 refine A0f (A1s hv) fun _ y9a=>?_
 obtain rfl:=y9a
 refine A0f (hs₁.core.rep _ _ (A2o h1)) fun a1 a2=>A3w (hs₁.core.rep _ _ (A1r h1)) fun esT nT a3 a4=>?_
 obtain ⟨uw,q1,q2⟩:=B0w (f:=Str.ofString "windows") (a:= .ref .wdic) a4 (by unfold Tree.fields;rcases hS with h|h|h <;> simp only [h] <;> rfl)
 refine A0f (A1s q2) fun _ y9a=>?_
 obtain rfl:=y9a
 refine A6d (hs₁.core.rep _ _ (A7d h1 hS.one)) fun vs _ g1 g2 g3=>?_
 obtain ⟨uu,q3,q4⟩:=B6b g3 g2 (n:=n) (a:= .ref (.win n)) (by simp only [A9w,h2];rfl)
 refine A0f (A1s q4) fun _ y9a=>?_
 obtain rfl:=y9a
 refine A0f (hs₁.core.rep _ _ (A1p h1 h2)) fun b1 b2=>A3w (hs₁.core.rep _ _ (A0v h1 h2)) fun esW nW b3 b4=>A0e (B0w (f:=Str.ofString "use_time") (a:= .int w.use) b4 (by rfl)) fun ut q5 q6=>A0i (A0r q6) fun tu y9a=>?_
 obtain rfl:=y9a
 have fT:=hs.ok.tg (Str.ofString "windows") (by decide)
 have fW:=hs.ok.wg (Str.ofString "use_time") (by decide)
 simp [A9v,Bool.and_eq_true,beq_iff_eq]at fT fW
 refine A0f fT fun y9a f3=>?_
 try clear fT
 obtain ⟨f1,f2⟩:=y9a
 refine A0f fW fun y9a e3=>?_
 try clear fW
 obtain ⟨e1,e2⟩:=y9a
 have kin:=hs₁.kin
 refine Attribute_any_ ?_ (by with_unfolding_all rfl)
 rw [eval_Subscript]
 refine wpAny_bind (Attribute_any_ (wpAny_Name (wpAny_loadName_free rfl (by rfl) (by rfl) hu ?_) (by rfl)) (by with_unfolding_all rfl))
 refine get_value kin ⟨a1,rfl,rfl,a3⟩ (plainGet_of f1).1 (findObj_own f2 f3 rfl (show lookIn (Str.ofString "windows") (dictOf esT nT)=some (some (.ref (Φ .wdic))) from q1)) rfl (wpAny_bind (wpAny_holding (wpAny_Name (wpAny_loadName_local (v:= .int n tk) rfl (by rfl) hns (by rfl) ?_) (by rfl))))
 refine wpAny_bind (wpAny_standAt ?_)
 refine tail_any g1.typeIs slot_dict_getitem.lookup (wpAny_getItem_of (intKind_is _ _ n tk) g1.mapOf q3 ?_) rfl
 refine get_value kin ⟨b1,rfl,rfl,b3⟩ (plainGet_of e1).1 (findObj_own e2 e3 rfl (show lookIn (Str.ofString "use_time") (dictOf esW nW)=some (some (.int w.use tu)) from q5)) rfl ?_
 exact k _ _ _ hk₁
theorem C3x(G:PG S)(B:BK S){fp ep kp lp pos p1 p2 p3 p4 p5 p6:Pos}{x:Str}{t:Tree}{l:List Int}{ca:Addr}{Q:AV→St→Prop}(hx:Str.ofString "sorted"∈σ.glb)(hf:Has σ.nam σ.loc x (.lst (l.map .int)))(hcl:closureFor C3q env=pure [(Str.ofString "tree",ca)])(hcd:env.code= .ref 392)
  (hcn:σ.cnm[0]? =some (Str.ofString "tree")) (hce:σ.cel[0]? =some (some (.ref .tree))) (hca:env.cells.lookup (Str.ofString "tree")=some ca) (h1:σ.tr=some t) (hS:t.S5) (hl: ∀n∈l,t.Has n) (h64:l.length<64) (htb:σ.tb=true)
  (h: ∀l':List Int,l'.Perm l→l'.Pairwise (fun a b=>t.use a≤t.use b)→Q (.lst (l'.map .int)) {σ with tb:=false}):
  W S d r env (RV S) (eval (.Call (.Name (Str.ofString "sorted") fp) [.Name x ep] [⟨some (Str.ofString "key"),.Lambda (C7t p6) (C7u p1 p2 p3 p4 p5) C3q lp,kp⟩] pos) env) σ Q X:=fun A P z y Φ s hA hs=>by
 refine wpAny_Call_Name_kw (B8j hs hx G.b_sorted.1 G.b_sorted.2 ?_)
 refine callWith_kw ?_
 have hargs:W S d r env (RL S) (spliced (backTo pos (starEach [.Name x ep] env))) σ (fun as σ₁=>as= [.lst (l.map .int)]∧σ₁=σ) (fun _=>False):=A0b rfl (A9q hf (A0g ⟨rfl,rfl⟩))
 refine hargs.run hA hs (fun vs s₁ P₁ z₁ Φ₁ σ₁ as x₁ r₁ hs₁ hq=>?_) fun e s' hx=>D0e hx
 refine A0f hq fun y9a eσ=>?_
 try clear hq
 obtain rfl:=y9a
 rw [eσ]at hs₁
 clear eσ
 refine A1x (A0c.uncons r₁) fun v rr y9a hv1 hr=>?_
 obtain rfl:=y9a
 have:rr= []:=hr
 subst this
 refine A3m (A8h hv1) fun c its n y9a hz hvs=>?_
 obtain rfl:=y9a
 refine kwAll_cons (kla_eval rfl ?_)
 refine A2u (hs₁.core.rep .tab (.tabo σ.tb) rfl) fun ps g1 g2 g3=>?_
 have hps:=g2 htb
 subst hps
 refine B7z B.bm fun bm ob b1 b2 b3 b4 b5 b6=>?_
 have hg:=hs₁.ok.g.keeps hs₁.keep
 have hbase:S.base.get? (Φ₁ .tab)=none:=by
  cases e:S.base.get? (Φ₁ .tab)with
  |none=>rfl
  |some o=>have:=hs₁.core.base _ _ e;replace this:=(hs₁.core.zf .tab (.tabo σ.tb) rfl).symm.trans this;exact k1 this
 have hgP:mainGlobals≠Φ₁ .tab:=fun q=>by obtain ⟨o,es,ep,e,_⟩:=hs₁.ok.g;rw [q,hbase]at e;exact k1 e
 have hbP:bm≠Φ₁ .tab:=fun q=>by rw [q,hbase]at b3;exact k1 b3
 have hbG:bm≠mainGlobals:=fun q=>by
  refine A3m hs₁.ok.g fun o es ep e hd _=>?_
  rw [q,e]at b3;cases b3;rw [hd]at b6;contradiction
 refine kla_makeFunction (mg:=S.mg) (c:=392) (P:=Φ₁ .tab) (ps:= #[]) hcl hs₁.eok.glob hg hcd (g3.keeps hs₁.keep) g1 trivial rfl hgP ⟨bm,ob,b1,b2,hbG,hbP,hs₁.keep _ _ b3,b4,b5,b6⟩ fun c' ctv h' tk hx hge hlt hrec htb'=>?_
 have hs₂:Sim S env {σ with tb:=false} P₁ z₁ y Φ₁ {s₁ with heap:=h',toks:=tk}:=hs₁.setobj (σ':={σ with tb:=false}) (q:= .tab) (o₀:= .tabo σ.tb) (o:= .tabo false) rfl (fun b o hb e=>hx b o hb e) htb' ⟨_,htb',(fun h=>nomatch h),g3⟩
  (fun j hj=>by cases j <;> first|rfl|exact absurd rfl hj) rfl ⟨rfl,rfl,rfl,rfl,rfl,rfl,rfl⟩ ⟨hs₁.pin.tmp,hs₁.pin.win,hs₁.pin.kid,hs₁.pin.tree,hs₁.pin.wdic,hs₁.pin.deck⟩
 have ecl:ca=Φ₁ (.cel σ.cfid 0):=by have:=hs₁.cel 0 _ hcn;replace this:=(hca).symm.trans this;exact Option.some.inj this
 subst ecl
 have hs₃:=hs₂.grow (h'.push (kla_obj "<lambda>" (env.qual++ "<lambda>") (C7t p6) (C7u p1 p2 p3 p4 p5) C3q [(Str.ofString "tree",Φ₁ (.cel σ.cfid 0))] ((S.mg "__name__").getD .none) c' ctv)) tk s₁.drawn (fun _ _ e=>Heap.get?_push_of_some _ e)
 have hfo:(h'.push (kla_obj "<lambda>" (env.qual++ "<lambda>") (C7t p6) (C7u p1 p2 p3 p4 p5) C3q [(Str.ofString "tree",Φ₁ (.cel σ.cfid 0))] ((S.mg "__name__").getD .none) c' ctv)).get? h'.objs.size=some (kla_obj "<lambda>" (env.qual++ "<lambda>") (C7t p6) (C7u p1 p2 p3 p4 p5) C3q [(Str.ofString "tree",Φ₁ (.cel σ.cfid 0))] ((S.mg "__name__").getD .none) c' ctv):=Heap.get?_push_size _ rfl
 have hLlt:env.locals<s₁.heap.objs.size:=by
  obtain ⟨o,e⟩:=hs₁.top env.locals (.inl (by rw [←hs₁.fid];exact hs₁.core.al _ _ A1l));exact Heap.lt_size e
 refine D3c hrec fun c₂ oc vs' tq ec hoc hdc hqc=>?_
 try clear hrec
 have hoc2:=Heap.get?_push_of_some (kla_obj "<lambda>" (env.qual++ "<lambda>") (C7t p6) (C7u p1 p2 p3 p4 p5) C3q [(Str.ofString "tree",Φ₁ (.cel σ.cfid 0))] ((S.mg "__name__").getD .none) c' ctv) hoc
 generalize h'.push (kla_obj "<lambda>" (env.qual++ "<lambda>") (C7t p6) (C7u p1 p2 p3 p4 p5) C3q [(Str.ofString "tree",Φ₁ (.cel σ.cfid 0))] ((S.mg "__name__").getD .none) c' ctv)=H at hs₃ hfo hoc2 ⊢
 have hcne:c₂≠env.locals:=by
  have:Value.ref c'= .ref c₂:=ec
  injection this with e
  rw [←e];exact Nat.ne_of_gt (Nat.lt_of_lt_of_le hLlt hge)
 have hfne:h'.objs.size≠env.locals:=Nat.ne_of_gt (Nat.lt_of_lt_of_le hLlt (Nat.le_trans hge (Nat.le_of_lt hlt)))
 generalize h'.objs.size=f at hfo hfne ⊢
 refine kwAll_nil ?_
 show wpAny _ A (call (.builtin "sorted") [.ref c] [(Str.ofString "key",.ref f)]) _ _ _
 refine A0e (hs₃.core.rep _ _ A1l) fun mm hm1 hm2=>?_
 rw [hs₃.loc]at hm1
 refine ksk_letter (b:=false) (f:= .ref f) t.use (D2x hm1) C7j (vs:=its.toList) ⟨_,hs₃.core.zin _ _ hz,rfl,n,by rfl⟩ (B2z hvs) h64 (ksk_s1 _ _) (fun x=>ksk_l1 _ _) (fun x=>ksk_t1 _ x) (fun n tk2 h2 tk3 own hn F N=>?_) fun D vs2 ns' cc h2 tk2 F N l1 i1 i2 i3 i4 i5=>?_
 ·have hk:=C2c F N (fun p hp=>List.mem_append_left _ hp)
  have hs₄:=hs₃.cut hm2 (tk:=tk3) F.ns hk
  refine A0i (hl n hn) fun w hw=>?_
  have e:t.use n=w.use:=by simp [Tree.use,hw]
  rw [e]
  refine C8s (σ:={σ with tb:=false}) (by have:=hA.dep;show A.depth<1000;lia) hs₄ h1 hS hw hce (hk _ _ hfne hfo) ⟨c₂,oc,vs',tq,ec,hk _ _ hcne hoc2,hdc,hqc⟩ fun h' tk' t' hk'=>?_
  exact KskEnd.intro (s₁:={s₁ with heap:=h2,toks:=tk3}) ⟨F.ns.keeps hk',fun b o e=>hk' _ _ (F.keep b o e),F.above⟩ (fun p hp=>⟨hk' _ _ (N p hp).1,(N p hp).2⟩) (fun p hp=>hp)
 ·have hk:=C2c F N (fun p hp=> .tail _ hp)
  have hs₄:=hs₃.cut hm2 (tk:=tk2) F.ns hk
  refine A1a (N _ (.head _)) fun d1 d2 d3=>?_
  have hD:H.get? D=none:=by
   cases e:H.get? D with
   |none=>rfl
   |some o=>
    rcases Nat.lt_trichotomy D env.locals with q|q|q
    ·have d3:(C9f H env.locals).get? D=none:=d3
     rw [B3e,if_pos q,e]at d3;exact k2 d3
    ·exact absurd q d2
    ·exact absurd (l1 (D,o) (B4a.mpr ⟨q,e⟩)) (Nat.lt_irrefl _)
  refine A0f (hs₄.freezeOff (hs₃.off hD) d1) fun hs₅ xf=>?_
  have i1':A0c S P₁ (fun b=>if b=D then some (PySem.W.listOf (List.toArray vs2) cc)else z₁ b) Φ₁ (ns'.map .int) vs2:=B3i i1
  exact Res.intro (b:= .lst (ns'.map .int)) (x₁.trans ⟨xf,fun _ _ _ h=> .inl h,fun _ h=> .inl h⟩) (C6l (if_pos rfl) (by simpa using i1')) hs₅ (h ns' i3 (by exact i4))
end
section
variable {Q:AV→St→Prop}
theorem B0p{a b:Int}(h0:0≤a)(h1:a≤1000000):IntMulOk a b:=by
 refine IntMulOk.of_left ?_
 unfold Builtin.Int.intBits
 by_cases q:a=0
 ·subst q;exact Nat.zero_le _
 ·have:a.natAbs.log2<20:=(Nat.log2_lt (by exact Z20 q)).mpr (by lia)
  rw [if_neg (by simpa using q)];exact Nat.le_trans this (by decide)
noncomputable def Tree.area(t:Tree)(n:Int):Int:=((t.get n).map fun w=>w.width*w.height).getD 0
noncomputable def A0q(t:Tree):Int→Int→List Int→Int
 |f,_,[]=>f
 |f,m,n::l=>if t.area n>m then A0q t n (t.area n) l else A0q t f m l
theorem A0q.e0{t:Tree}{f u1}:A0q t f u1 []=(f):=rfl
theorem A0q.e1{t:Tree}{f m n l}:A0q t f m (n::l)=(if t.area n>m then A0q t n (t.area n) l else A0q t f m l):=rfl
noncomputable def Tree.HasW(t:Tree)(n:Int):Prop:= ∃w,t.get n=some w∧0≤w.width∧w.width≤1000000
theorem B5y(G:PG S){l:List Int}(hS:t.S5)(hl: ∀n∈l,t.HasW n)(h:Q (.int (A0q t 0 (-1) l)) (St.mk (some t) dk nw rl tb fid nam loc tmp cfid cnm cel glb)):WC S (d+1) r env 35 [.ref .tree,.lst (l.map .int)] (St.mk (some t) dk nw rl tb fid nam loc tmp cfid cnm cel glb) Q X:=by
 refine B4l G fun L=>?_
 refine A0h ?_
 intro K9
 refine A2d rfl (by kernel_rfl) rfl rfl rfl ?_
 refine A0z ?_
 refine C3p ?_
 refine A0b rfl ?_
 refine D1q ?_
 refine A0w ?_
 refine D4d ?_
 refine A0g ?_
 refine⟨Nat.le_of_ble_eq_true rfl,?_⟩
 refine C6m rfl ?_
 refine A4q ?_
 refine A0k (.tail (.tail .head)) ?_
 refine A4q ?_
 refine A0k (.tail (.tail (.tail .head))) ?_
 refine A8e ?_
 refine A6l ?_
 intro K9
 refine B1l (fun _=>rfl) ?_
 refine A0d (ix 1 rfl rfl) ?_
 refine D1i ?_
 let I9:List Int→St→Prop:=fun m' σ'=> ∃(f mo:Int) (nv hv:Option AV),σ'=St.mk (some t) dk nw rl tb L ["tree","numbers","found","most","number","here"] [some (.ref .tree),some (.lst (l.map .int)),some (.int f),some (.int mo),nv,hv] [] L [] [] []∧
  (∀n∈m',t.HasW n)∧A0q t f mo m'=A0q t 0 (-1) l
 refine A9l I9 rfl ⟨0,-1,none,none,rfl,hl,rfl⟩ ?_ ?_
 ·intro k m' σ' K9 h9
  refine B4p h9 fun f mo nv hv y9a hall e=>?_
  try clear h9
  obtain rfl:=y9a
  refine A2u (hall k (.head _)) fun w g1 g2 g3=>?_
  have ar:t.area k=w.width*w.height:=by simp [Tree.area,g1]
  refine A0k (.tail (.tail (.tail (.tail .head)))) ?_
  refine A6g rfl ?_
  intro K9
  refine A8l .head (ix 4 rfl rfl) (by assumption) (by assumption) rfl ?_
  refine A0k (.tail (.tail (.tail (.tail (.tail .head))))) ?_
  refine A4i ?_
  intro K9
  refine A3k rfl ?_
  refine A0t ?_
  refine A2c (ix 5 rfl rfl) ?_
  refine A4p rfl (by assumption) ?_
  refine A2c (ix 5 rfl rfl) ?_
  refine A3d rfl (by assumption) ?_
  refine B7f (B0p g2 g3) ?_
  refine A0d (ix 3 rfl rfl) ?_
  refine D4e ?_
  refine isb ?_
  refine⟨fun hb=>?_,fun hb=>?_⟩
  ·refine A0h ?_
   intro K9
   refine A5k (x1:= "found") (x2:= "most") rfl (by kernel_rfl) ?_
   refine A0z ?_
   refine A4y (ix 4 rfl rfl) ?_
   refine A0b rfl ?_
   refine A0t ?_
   refine A2c (ix 5 rfl rfl) ?_
   refine A4p rfl (by assumption) ?_
   refine A2c (ix 5 rfl rfl) ?_
   refine A3d rfl (by assumption) ?_
   refine B7f (B0p g2 g3) ?_
   refine A0g ?_
   refine⟨Nat.le_of_ble_eq_true rfl,?_⟩
   refine ts2 ?_
   refine A0k (.tail (.tail (.tail .head))) ?_
   refine A0k (.tail (.tail .head)) ?_
   refine A5u ?_
   refine A5u ?_
   refine A0a ?_
   refine C1f k (w.width*w.height) _ _ rfl (fun n hn=>hall n (.tail _ hn)) ?_
   refine Eq.trans ?_ (e).symm.symm;simp only [A0q.e0,A0q.e1];rw [ar,if_pos (by simpa using hb)]
  ·refine A0x ?_
   refine A5u ?_
   refine A0a ?_
   refine C1f f mo _ _ rfl (fun n hn=>hall n (.tail _ hn)) ?_
   refine Eq.trans ?_ (e).symm.symm;simp only [A0q.e0,A0q.e1];rw [ar,if_neg (by simpa using hb)]
 ·intro σ' h9
  refine B4p h9 fun f mo nv hv y9a hall e=>?_
  try clear h9
  obtain rfl:=y9a
  refine A0a ?_
  refine B1p ?_
  refine A0d (ix 2 rfl rfl) ?_
  refine A6c ?_
  rw [show f=A0q t f mo [] from rfl,e]
  exact h
noncomputable def A2w(t:Tree)(old new:Int)(wo wn wp:Win):Tree:=
 if wo.parent=0 then(t.put new (wn.s_parent wo.parent)).s_root new else(t.put new (wn.s_parent wo.parent)).put wo.parent (wp.s_kids (wp.kids.set (wp.kids.idxOf old) new))
theorem B4x(G:PG S){old new:Int}{wo wn wp:Win}(hS:t.stg=7)(h1:t.get old=some wo)(h2:t.get new=some wn)(h3:wo.parent≠0→t.get wo.parent=some wp∧wo.parent≠new∧old∈wp.kids∧wp.kids.length≤1000)
  (h:Q .none (St.mk (some (A2w t old new wo wn wp)) dk nw rl tb fid nam loc tmp cfid cnm cel glb)):WC S (d+1) r env 224 [.ref .tree,.int old,.int new] (St.mk (some t) dk nw rl tb fid nam loc tmp cfid cnm cel glb) Q X:=by
 refine B2r G fun L=>?_
 have h5:=Tree.s5 hS
 refine A6g rfl ?_
 intro K9
 refine A3q rfl (A8l .head (ix 1 rfl rfl) (by assumption) (by assumption) rfl (A3v rfl (by assumption) (A0k (.tail (.tail (.tail .head))) (A8g rfl ?_))))
 intro K9
 refine A0d (ix 3 rfl rfl) (A8l .head (ix 2 rfl rfl) (by assumption) (by assumption) rfl (B8m (by assumption) (A4i ?_)))
 intro K9
 refine A6e rfl (ix 3 rfl rfl) (A0w (eqb (⟨fun hb=>?_,fun hb=>?_⟩)))
 ·have e:wo.parent=0:=by simpa using hb
  unfold A2w at h;rw [if_pos e]at h
  have hS':(t.put new (wn.s_parent wo.parent)).stg=7:=hS
  refine A8g rfl ?_
  intro K9
  refine A0d (ix 2 rfl rfl) (A0d .head (D2y (by assumption) (A0x (A5u (A1z ?_)))))
  exact h
 ·have e:wo.parent≠0:=by simpa using hb
  refine C3g (h3 e) fun g1 g2 g3 g4=>?_
  unfold A2w at h;rw [if_neg e]at h
  have hi:=List.idxOf_lt_length_of_mem g3
  have gp:(t.put new (wn.s_parent wo.parent)).get wo.parent=some wp:=(Tree.get_put_ne g2 _).trans g1
  refine A6g rfl ?_
  intro K9
  refine A3q rfl (A8l .head (ix 3 rfl rfl) (Tree.S5.put (by assumption)) (by assumption) rfl (A2f rfl (by assumption) (A0k (.tail (.tail (.tail (.tail .head)))) (A0h ?_))))
  intro K9
  refine A7b rfl (A0d (ix 2 rfl rfl) (A0d (ix 4 rfl rfl) (A6y rfl (ix 4 rfl rfl) (C5l rfl gp (A0d (ix 1 rfl rfl) (C8a old wp.kids rfl (B0c gp) (by exact Nat.le_trans g4 (by decide)) g3 (C7w gp hi (by exact Nat.le_trans g4 (by decide)) (A5u (A5u (A1z ?_))))))))))
  exact h
end
section
variable {Q:AV→St→Prop}
theorem C0d(G:PG S){a:Int}(hS:t.stg=7)(h2:t.get n=some w)(h0:w.sort=0)(hk:w.kids= [])(h:Q (.int (if a=0 then t.lw else t.lh)) (St.mk (some t) dk nw rl tb fid nam loc tmp cfid cnm cel glb)):WC S (d+2) r env 229 [.ref .tree,.int n,.int a] (St.mk (some t) dk nw rl tb fid nam loc tmp cfid cnm cel glb) Q X:=by
 refine B7v G fun L=>A0i G.c_LEAF fun t1 e1=>?_
 have h5:=Tree.s5 hS
 have hR:(Sh.mk n []).Rep t:=by simp only [Sh.Rep.e0];exact⟨⟨w,h2,by exact hk,by simp [h0]⟩,trivial⟩
 refine A0h ?_
 intro K9
 refine C4b ⟨_,.head,?_⟩
 refine A6l ?_
 intro K9
 refine B1l (fun _=>rfl) (C9m (A8r G List.mem_cons_self rfl rfl (A3j .head (ix 1 rfl rfl) (A9a (sh:=Sh.mk n []) G h5 hR (Nat.le_of_ble_eq_true rfl) (A8n _ A1g (Nat.le_of_ble_eq_true rfl) (D1i ?_))))))
 let I9:List AV→St→Prop:=fun m σ'=> ∃(ov hv:Option AV) (c:CO),σ'=St.mk (some t) dk nw rl tb L ["tree","number","axis","own","here"] [some (.ref .tree),some (.int n),some (.int a),ov,hv] [some c] L ["found"] [some (.ref (.tmp L 0))] ["windows_under","LEAF","along","sum","max"]∧
  ((m= [.int n]∧c= .idic [] [])∨(m= []∧c= .idic [n] [.int (if a=0 then t.lw else t.lh)]))
 refine C1h I9 ⟨none,none,_,rfl,.inl ⟨by rfl,rfl⟩⟩ ?_ ?_
 ·intro b m σ' K9 h9
  refine A8c h9 fun ov hv c y9a y9b=>?_
  try clear h9
  obtain rfl:=y9a
  obtain hm|hm:=y9b
  ·obtain ⟨hm,rfl⟩:=hm
   simp only [List.cons.injEq]at hm
   refine A0f hm fun y9a y9b=>?_
   try clear hm
   obtain rfl:=y9a
   obtain rfl:=y9b
   refine A0k (.tail (.tail (.tail .head))) (A6g rfl ?_)
   intro K9
   refine A8l .head (ix 3 rfl rfl) (by assumption) (by assumption) rfl (A0k (.tail (.tail (.tail (.tail .head)))) (A4i ?_))
   intro K9
   refine A6x rfl (ix 4 rfl rfl) (A4g rfl (by assumption) (A3p (mi 1 rfl) (by assumption) (eqb (⟨fun _=>?_,fun hb=>by simp [h0]at hb⟩))))
   refine A0h ?_
   intro K9
   refine A7b rfl (A6y rfl .head (A4m G (by assumption) rfl rfl (A2s (ix 2 rfl rfl) (B2j G hS (A8v .head (A0d (ix 3 rfl rfl) (C4j (ks:= []) (l:= []) (by simp) rfl (Nat.zero_le _) (A5u (A5u (A0a ?_))))))))))
   exact B5k _ _ _ rfl (.inr ⟨rfl,rfl⟩)
  ·simp at hm
 ·intro σ' h9
  refine A8c h9 fun ov hv c y9a y9b=>?_
  try clear h9
  obtain rfl:=y9a
  obtain hm|hm:=y9b
  ·simp at hm
  ·refine A0f hm fun _ y9a=>?_
   try clear hm
   obtain rfl:=y9a
   refine A0a (B1p (A6i (A8v .head (A0d (ix 1 rfl rfl) (C8c (b:= .int (if a=0 then t.lw else t.lh)) (by simp) (fun _ _=>rfl) (A6c ?_))))))
   exact h
theorem B4w(G:PG S){a v:Int}(hS:t.stg=7)(h2:t.get n=some w)(h0:w.sort=0)(h:Q .none (St.mk (some (t.put n (w.setSize a v))) dk nw rl tb fid nam loc tmp cfid cnm cel glb)):WC S (d+2) r env 239 [.ref .tree,.int n,.int a,.int v] (St.mk (some t) dk nw rl tb fid nam loc tmp cfid cnm cel glb) Q X:=by
 refine B2q G fun L=>A0i G.c_LEAF fun t1 e1=>?_
 have h5:=Tree.s5 hS
 refine A0h ?_
 intro K9
 refine A6j (A0b rfl (A0z (A3j .head (ix 1 rfl rfl) (⟨Nat.le_of_ble_eq_true rfl,?_⟩))))
 refine A0g (⟨Nat.le_of_ble_eq_true rfl,?_⟩)
 refine C5c (.tail (.tail .head)) (A6l ?_)
 intro K9
 let I9:Nat→St→Prop:=fun m σ'=>(m=1∧σ'=St.mk (some t) dk nw rl tb L ["number","size","waiting","own","much","here","child","leasts","spare","part"] [some (.int n),some (.int v),some (.ref (.tmp L 0)),none,none,none,none,none,none,none] [some (.list [.tup [.int n,.int v]])] L ["tree","axis"] [some (.ref .tree),some (.int a)] ["LEAF","along","zip","shares"])∨
  (m=0∧ ∃ov mv hv,σ'=St.mk (some (t.put n (w.setSize a v))) dk nw rl tb L ["number","size","waiting","own","much","here","child","leasts","spare","part"] [some (.int n),some (.int v),some (.ref (.tmp L 0)),ov,mv,hv,none,none,none,none] [some (.list [])] L ["tree","axis"] [some (.ref .tree),some (.int a)] ["LEAF","along","zip","shares"])
 refine C3w I9 1 (.inl ⟨rfl,rfl⟩) ?_
 rintro m σ' K9 (⟨rfl,rfl⟩| ⟨rfl,ov,mv,hv,rfl⟩)
 ·refine A6e rfl (ix 2 rfl rfl) (A5j (A0g (⟨Nat.le_of_ble_eq_true rfl,?_⟩)))
  refine A3t C1c (isb (⟨fun _=>?_,fun hb=>by contradiction⟩))
  refine A0h ?_
  intro K9
  refine A2d rfl (by kernel_rfl) rfl rfl rfl (A6y rfl (ix 2 rfl rfl) (C8f (l:= []) C2m (Nat.zero_le _) (C6m rfl (A4q (A0k (.tail (.tail (.tail .head))) (A4q (A0k (.tail (.tail (.tail (.tail .head)))) (A8e (A0a (A6g rfl ?_))))))))))
  intro K9
  refine A9m .head (ix 3 rfl rfl) (by assumption) (by assumption) rfl (A0k (.tail (.tail (.tail (.tail (.tail .head))))) (A4i ?_))
  intro K9
  refine A6x rfl (ix 5 rfl rfl) (A4g rfl (by assumption) (A3p List.mem_cons_self (by assumption) (neb (⟨fun hb=>by simp [h0]at hb,fun _=>?_⟩))))
  refine A0x (A6l ?_)
  intro K9
  refine A2g rfl rfl (A6y rfl (ix 5 rfl rfl) (A5b G (by assumption) rfl rfl (C2i (ix 1 rfl rfl) (A2s (ix 4 rfl rfl) (B1z G h2 (⟨trivial,?_⟩))))))
  refine A5u (A0a ?_)
  exact A1f 0 (Nat.le_of_ble_eq_true rfl) (.inr ⟨rfl,_,_,_,rfl⟩)
 ·refine A6e rfl (ix 2 rfl rfl) (A5j (A0g (⟨Nat.le_of_ble_eq_true rfl,?_⟩)))
  refine A3t C1c (isb (⟨fun hb=>by exact k4 hb,fun _=>?_⟩))
  refine A5u (A1z ?_)
  exact h
end
section
variable {Q:AV→St→Prop}
noncomputable def Tree.wd(t:Tree)(n:Int):Int:=((t.get n).map (·.width)).getD 0
noncomputable def Tree.ht(t:Tree)(n:Int):Int:=((t.get n).map (·.height)).getD 0
noncomputable def A2n(t:Tree)(row:Bool):List Sh→Int→Int→List (Sh×Int×Int)
 | [],_,_=> []
 |k::ks,l,tp=>(k,l,tp)::(if row then A2n t row ks (l+t.wd k.num) tp else A2n t row ks l (tp+t.ht k.num))
theorem A2n.e0{t:Tree}{row:Bool}{u1 u2}:A2n t row [] u1 u2=([]):=rfl
theorem A2n.e1{t:Tree}{row:Bool}{k ks l tp}:A2n t row (k::ks) l tp=((k,l,tp)::(if row then A2n t row ks (l+t.wd k.num) tp else A2n t row ks l (tp+t.ht k.num))):=rfl
structure SameP (ns:List Int) (t t':Tree):Prop where
 get: ∀n,∃l tp,t'.get n=(t.get n).map (fun w=>if n∈ns then(w.s_left l).s_top tp else w)
 keys:t'.wins.map (·.1)=t.wins.map (·.1)
 rest:t'.last=t.last∧t'.clock=t.clock∧t'.lw=t.lw∧t'.lh=t.lh∧t'.root=t.root∧t'.sel=t.sel∧t'.stg=t.stg
theorem A6h(t:Tree)(row:Bool): ∀(ks:List Sh) (l tp:Int),(A2n t row ks l tp).map (·.1)=ks
 | [],_,_=>rfl
 |k::ks,l,tp=>by
  simp only [A2n.e0,A2n.e1,List.map_cons]
  cases row <;> simp [A6h t _ ks]
inductive PlRun (t₀:Tree):List (Sh×Int×Int)→Tree→Tree→Prop
 |nil {t:Tree}:PlRun t₀ [] t t
 |cons {n:Int} {ks:List Sh} {l tp:Int} {ws:List (Sh×Int×Int)} {t t':Tree} {w:Win} (hg:t.get n=some w)
   (h:PlRun t₀ ((A2n t₀ (w.sort == 2) ks l tp).reverse++ws) (t.put n ((w.s_left l).s_top tp)) t'):PlRun t₀ ((.mk n ks,l,tp)::ws) t t'
theorem SameP.refl(ns:List Int)(t:Tree):SameP ns t t:=⟨fun n=>by
  cases h:t.get n with
  |none=>exact⟨0,0,rfl⟩
  |some w=>exact⟨w.left,w.top,by simp only [Option.map_some];split <;> rfl⟩,rfl,rfl,rfl,rfl,rfl,rfl,rfl,rfl⟩
theorem SameP.put{ns:List Int}{t t':Tree}(h:SameP ns t t'){n:Int}(hn:n∈ns){w:Win}(hg:t'.get n=some w)(l tp:Int):SameP ns t (t'.put n ((w.s_left l).s_top tp)):=by
 refine⟨fun m=>?_,(Tree.keys_put _ _ _).trans h.keys,h.rest⟩
 by_cases q:m=n
 ·subst q
  refine B5w (h.get m) fun l0 tp0 e=>?_
  rw [Tree.get_put_self hg]
  cases hm:t.get m with
  |none=>rw [hm,hg]at e;exact k2 e
  |some w0=>
   rw [hm,hg]at e;simp only [Option.map_some,if_pos hn,Option.some.injEq]at e
   exact C8b l tp (by rw [Option.map_some,if_pos hn,e];rfl)
 ·rw [Tree.get_put_ne q];exact h.get m
theorem SameP.some{ns:List Int}{t t':Tree}(h:SameP ns t t'){n:Int}{w:Win}(hg:t.get n=some w): ∃w',t'.get n=some w'∧w'.width=w.width∧w'.height=w.height∧w'.kids=w.kids∧w'.ver=w.ver∧w'.sort=w.sort:=by
 refine B5w (h.get n) fun l tp e=>?_
 rw [hg,Option.map_some]at e
 refine A1f _ e ?_
 split <;> exact⟨rfl,rfl,rfl,rfl,rfl⟩
noncomputable def stk(ws:List (Sh×Int×Int)):List AV:=ws.reverse.map fun p=> .tup [.int p.1.num,.int p.2.1,.int p.2.2]
theorem C0c(G:PG S){sh:Sh}(hS:t.stg=7)(hr:t.root=sh.num)(hR:sh.Rep t)(hN:sh.all.length≤1000)(h: ∀t',SameP sh.all t t'→PlRun t [(sh,0,0)] t t'→Q .none (St.mk (some t') dk nw rl tb fid nam loc tmp cfid cnm cel glb)):WC S (d+2) r env 246 [.ref .tree] (St.mk (some t) dk nw rl tb fid nam loc tmp cfid cnm cel glb) Q X:=by
 refine B7u G fun L=>A0i G.c_WIDTH fun t1 e1=>?_
 have h5:=Tree.s5 hS
 refine A0h ?_
 intro K9
 refine A6j (A0b rfl (A0z (A0b rfl (A2c .head (B1u rfl (by assumption) (C3p (A7h (⟨Nat.le_of_ble_eq_true rfl,?_⟩))))))))
 refine A0g (⟨Nat.le_of_ble_eq_true rfl,?_⟩)
 refine C5c (.tail .head) (A6l ?_)
 intro K9
 rw [hr]
 let I9:List (Sh×Int×Int)→St→Prop:=fun ws σ'=> ∃(tc:Tree) (a1 a2 a3 a4 a5:Option AV),σ'=St.mk (some tc) dk nw rl tb L ["tree","waiting","number","left","top","here","child"] [some (.ref .tree),some (.ref (.tmp L 0)),a1,a2,a3,a4,a5] [some (.list (stk ws))] L [] [] ["along","WIDTH"]∧
  Sh.RepL t (ws.map (·.1))∧SameP sh.all t tc∧(∀n∈Sh.allL (ws.map (·.1)),n∈sh.all)∧(Sh.allL (ws.map (·.1))).length≤1000∧ ∀t',PlRun t ws tc t'→PlRun t [(sh,0,0)] t t'
 refine B6r I9 (fun ws=>(Sh.allL (ws.map (·.1))).length) (L:= [(sh,0,0)])
  ⟨t,none,none,none,none,none,rfl,⟨hR,trivial⟩,.refl _ _,by simp [Sh.allL.e0,Sh.allL.e1],by simpa [Sh.allL.e0,Sh.allL.e1]using hN,fun _ h=>h⟩ ?_ ?_ ?_
 ·intro ws σ' h9
  refine A7s h9 fun tc a1 a2 a3 a4 y9a=>?_
  try clear h9
  refine A5l y9a fun a5 y9b hws hsp hmem hb hrun=>?_
  obtain rfl:=y9b
  refine A6e rfl (ix 1 rfl rfl) (A5j (A0g (⟨Nat.le_of_ble_eq_true rfl,?_⟩)))
  refine A3t C1c (isb ?_)
  exact⟨by cases ws <;> simp [stk],rfl⟩
 ·intro s ws σ' K9 h9
  refine A7s h9 fun tc a1 a2 a3 a4 y9a=>?_
  try clear h9
  refine A5l y9a fun a5 y9b hws hsp hmem hb hrun=>?_
  obtain rfl:=y9b
  have hS':tc.S5:=by have:=hsp.rest.2.2.2.2.2.2;exact Tree.s5 (this.trans hS)
  obtain ⟨⟨k,ks⟩,l0,t0⟩:=s
  obtain ⟨⟨w,g1,g2,g3⟩,hks⟩:(∃w,t.get k=some w∧w.kids=ks.map Sh.num∧(w.sort=0↔ks= []))∧Sh.RepL t ks:=by have:=hws.1;simpa only [Sh.Rep.e0]using this
  refine A5l (hsp.some g1) fun w' g1' gw gh gk gv gs=>?_
  have hlw2:(stk ws).length≤1000:=by unfold stk;have:=Sh.len_le (ws.map (·.1));simp only [List.length_map,List.length_reverse,Sh.allL.e0,Sh.allL.e1,Sh.all.e0,List.map_cons,List.length_cons,List.length_append]at this hb ⊢;lia
  refine A0h ?_
  intro K9
  refine A2d rfl (by kernel_rfl) rfl rfl rfl (A6y rfl (ix 1 rfl rfl) ?_)
  have e0:stk ((Sh.mk k ks,l0,t0)::ws)=stk ws++ [.tup [.int k,.int l0,.int t0]]:=by simp [stk,Sh.num]
  rw [e0]
  refine C8f C2m (by exact Nat.le_trans hlw2 (by decide)) (C6m rfl (A4q (A0k (.tail (.tail .head)) (A4q (A0k (.tail (.tail (.tail .head))) (A4q (A0k (.tail (.tail (.tail (.tail .head)))) (A8e (A0a (A6g rfl ?_))))))))))
  intro K9
  refine A8l .head (ix 2 rfl rfl) (by assumption) (by assumption) rfl (A0k (.tail (.tail (.tail (.tail (.tail .head))))) (A0h ?_))
  intro K9
  refine A2d rfl (by kernel_rfl) rfl rfl rfl (A0z (A3j (ix 3 rfl rfl) (ix 4 rfl rfl) (⟨Nat.le_of_ble_eq_true rfl,?_⟩)))
  refine C6m rfl (A4d (A0d (ix 5 rfl rfl) (C9i (by assumption) (A4d (A0d (ix 5 rfl rfl) (D3g (Tree.get_put_self (by assumption) _) (A8e (A6l ?_))))))))
  intro K9
  have hkk:k∈sh.all:=hmem k (.head _)
  have hspt:=hsp.put hkk g1' l0 t0
  have hgt:(tc.put k ((w'.s_left l0).s_top t0)).get k=some ((w'.s_left l0).s_top t0):=Tree.get_put_self g1' _
  have hS'':(tc.put k ((w'.s_left l0).s_top t0)).S5:=hS'
  generalize htc:tc.put k ((w'.s_left l0).s_top t0)=tc' at hspt hgt hS''
  have hlk:=Sh.len_le ks
  have hkb:ks.length≤1000:=by simp [Sh.allL.e0,Sh.allL.e1,Sh.all.e0]at hb;lia
  have ew:((tc.put k (w'.s_left l0)).put k ((w'.s_left l0).s_top t0))=tc':=by rw [A6p];exact htc
  rw [ew]
  have hwk:((w'.s_left l0).s_top t0).ver=w'.ver∧((w'.s_left l0).s_top t0).kids=ks.map Sh.num∧((w'.s_left l0).s_top t0).sort=w.sort:=⟨rfl,gk.trans g2,gs⟩
  generalize ((w'.s_left l0).s_top t0)=wk at hgt hwk
  refine B1l (fun _=>rfl) (A2c (ix 5 rfl rfl) (A2f rfl (by assumption) (D3r (l:=wk.kids.map .int) ?_)))
  let I9:List Sh→St→Prop:=fun rest σ'=> ∃(l tp:Int) (dn:List (Sh×Int×Int)) (cv:Option AV),(∀x∈rest,x∈ks)∧dn++A2n t (w.sort == 2) rest l tp=A2n t (w.sort == 2) ks l0 t0∧dn.length≤1000∧dn.length+rest.length=ks.length∧
   σ'=St.mk (some tc') dk nw rl tb L ["tree","waiting","number","left","top","here","child"] [some (.ref .tree),some (.ref (.tmp L 0)),some (.int k),some (.int l),some (.int tp),some (.ref (.win k)),cv] [some (.list (stk ws++dn.map fun p=> .tup [.int p.1.num,.int p.2.1,.int p.2.2]))] L [] [] ["along","WIDTH"]
  refine B0s (l₀:=wk.kids.map .int) (L:=ks) (g:=fun s=> .int s.num) I9 (by rw [hwk.2.1,List.map_map];rfl)
   ⟨l0,t0,[],a5,fun x hx=>hx,rfl,by exact Nat.zero_le _,by simp,by simp⟩ ?_ ?_ ?_
  ·intro rest σ' h9
   refine B5u h9 fun l tp dn cv hin hd hdl hdr y9a=>?_
   try clear h9
   obtain rfl:=y9a
   exact A7n (σ:=St.mk (some tc') _ _ _ _ _ _ _ _ _ _ _ _) rfl hgt
  ·intro c rest σ' K9 h9
   refine B5u h9 fun l tp dn cv hin hd hdl hdr y9a=>?_
   try clear h9
   obtain rfl:=y9a
   have hc: ∃wc,t.get c.num=some wc:=by
    have: ∀(l:List Sh),Sh.RepL t l→ ∀x∈l,∃w,t.get x.num=some w:=by
     intro l
     induction l with
     |nil=>intro _ x hx;exact k3 hx
     |cons y l ih=>
      intro hl x hx
      rcases List.mem_cons.mp hx with rfl|hx
      ·obtain ⟨a,b⟩:=x
       have:=hl.1;simp only [Sh.Rep.e0]at this;exact⟨_,this.1.choose_spec.1⟩
      ·exact ih hl.2 x hx
    exact this ks hks c (hin c (.head _))
   refine A0i hc fun wc gc=>?_
   try clear hc
   refine A6d (hspt.some gc) fun wc' gc' gcw gch _=>?_
   have ewd:t.wd c.num=wc'.width:=by simp [Tree.wd,gc,gcw]
   have eht:t.ht c.num=wc'.height:=by simp [Tree.ht,gc,gch]
   simp only [List.length_cons]at hdr
   refine A0k (.tail (.tail (.tail (.tail (.tail (.tail .head)))))) (A0h ?_)
   intro K9
   refine A2g rfl rfl (A6y rfl (ix 1 rfl rfl) (B3a rfl C8d (A0z (A4y (ix 6 rfl rfl) (A3j (ix 3 rfl rfl) (ix 4 rfl rfl) (⟨Nat.le_of_ble_eq_true rfl,?_⟩))))))
   refine D3t C2m ?_ ?_
   ·simp only [List.length_append,List.length_map];lia
   refine⟨trivial,?_⟩
   refine A0a (A4i ?_)
   intro K9
   refine A3k rfl (B3w G List.mem_cons_self rfl rfl (A0b rfl (A2c (ix 5 rfl rfl) (A4g rfl (by assumption) (A0g (B5a G (A3p (mi 1 rfl) (by assumption) (eqb (⟨fun hrow=>?_,fun hrow=>?_⟩)))))))))
   ·have h2:(w.sort == 2)=true:=by rw [←hwk.2.2];by_cases q:wk.sort=2 <;> simp_all
    refine A6g rfl ?_
    intro K9
    refine A0t (A0d (ix 3 rfl rfl) (A3q rfl (A8l .head (ix 6 rfl rfl) (by assumption) (by assumption) rfl (A4p rfl (by assumption) (B0a (A0k (.tail (.tail (.tail .head))) (A0x (A5u (A0a (C5p (l+t.wd c.num) tp (dn++ [(c,l,tp)]) (some (.int c.num)) (fun x hx=>hin x (.tail _ hx)) ?_ (by simp;exact Z21 hkb hdr) (by simp;exact Z22 hdr) ?_))))))))))
    ·rw [←hd,h2];simp [A2n.e0,A2n.e1]
    ·simp only [ewd];simp
   ·have h2:(w.sort == 2)=false:=by rw [←hwk.2.2];by_cases q:wk.sort=2 <;> simp_all
    refine A6g rfl ?_
    intro K9
    refine A0t (A0d (ix 4 rfl rfl) (A3q rfl (A8l .head (ix 6 rfl rfl) (by assumption) (by assumption) rfl (A3d rfl (by assumption) (B0a (A0k (.tail (.tail (.tail (.tail .head)))) (A0x (A5u (A0a (C5p l (tp+t.ht c.num) (dn++ [(c,l,tp)]) (some (.int c.num)) (fun x hx=>hin x (.tail _ hx)) ?_ (by simp;exact Z21 hkb hdr) (by simp;exact Z22 hdr) ?_))))))))))
    ·rw [←hd,h2];simp [A2n.e0,A2n.e1]
    ·simp only [eht];simp
  ·intro σ' h9
   refine B5u h9 fun l tp dn cv hin hd hdl hdr y9a=>?_
   try clear h9
   obtain rfl:=y9a
   refine A5u (A0a ?_)
   simp only [A2n.e0,A2n.e1,List.append_nil]at hd
   refine A1f ((A2n t (w.sort == 2) ks l0 t0).reverse++ws) ?_ (C1e tc' (some (.int k)) (some (.int l)) (some (.int tp)) (some (.ref (.win k))) (B0f cv ?_ ?_ hspt ?_ ?_ ?_))
   ·simp only [List.map_append,List.map_reverse,A6h,Sh.allL_app,List.length_append,List.map_cons,Sh.allL.e0,Sh.allL.e1,Sh.all.e0,List.length_cons]
    have:(Sh.allL ks.reverse).length=(Sh.allL ks).length:=by
     have: ∀l:List Sh,(Sh.allL l.reverse).length=(Sh.allL l).length:=by
      intro l;induction l with
      |nil=>rfl
      |cons x l ih=>simp [Sh.allL_app,Sh.allL.e0,Sh.allL.e1,ih];exact Nat.add_comm _ _
     exact this ks
    lia
   ·rw [←hd];simp [stk]
   ·simp only [List.map_append,List.map_reverse,A6h]
    refine Sh.repL_app.mpr ⟨?_,hws.2⟩
    have: ∀l:List Sh,Sh.RepL t l→Sh.RepL t l.reverse:=by
     intro l;induction l with
     |nil=>intro h;exact h
     |cons x l ih=>intro h;simp only [List.reverse_cons];exact Sh.repL_app.mpr ⟨ih h.2,h.1,trivial⟩
    exact this ks hks
   ·simp [List.map_append,List.map_reverse,A6h,Sh.allL_app,List.mem_append]
    have: ∀(l:List Sh) (n:Int),n∈Sh.allL l.reverse→n∈Sh.allL l:=by
     intro l;induction l with
     |nil=>intro n h;exact h
     |cons x l ih=>
      intro n h;simp [Sh.allL_app,Sh.allL.e0,Sh.allL.e1]at h ⊢;rcases h with h|h
      ·exact .inr (ih n h)
      ·exact .inl h
    intro n hn
    refine hmem n ?_
    rw [List.map_cons,Sh.allL.e1,Sh.all.e0,List.mem_append,List.mem_cons]
    rcases hn with hn|hn
    ·exact .inl (.inr (this ks n hn))
    ·exact .inr hn
   ·simp only [List.map_append,List.map_reverse,A6h,Sh.allL_app,List.length_append,List.map_cons,Sh.allL.e0,Sh.allL.e1,Sh.all.e0,List.length_cons]at hb ⊢
    have:(Sh.allL ks.reverse).length=(Sh.allL ks).length:=by
     have: ∀l:List Sh,(Sh.allL l.reverse).length=(Sh.allL l).length:=by
      intro l;induction l with
      |nil=>rfl
      |cons x l ih=>simp [Sh.allL_app,Sh.allL.e0,Sh.allL.e1,ih];exact Nat.add_comm _ _
     exact this ks
    lia
   ·intro t' hr'
    refine hrun t' (.cons g1' ?_)
    rw [gs,htc]
    exact hr'
 ·intro σ' h9
  refine A7s h9 fun tc a1 a2 a3 a4 y9a=>?_
  try clear h9
  refine A5l y9a fun a5 y9b hws hsp hmem hb hrun=>?_
  obtain rfl:=y9b
  refine A5u (A1z ?_)
  exact h tc hsp (hrun tc .nil)
end
section
variable {Q:AV→St→Prop}
theorem C6z{t:Tree}(hn:(t.wins.map (·.1)).Nodup){k:Int}{w:Win}(h:t.get k=some w):t.put k w=t:=by
 obtain ⟨wins,a,b,c,e,f,g,i⟩:=t
 unfold Tree.put;simp only [Tree.mk.injEq,and_true]
 have: ∀l:List (Int×Win),(l.map (·.1)).Nodup→l.lookup k=some w→(l.map fun p=>if p.1=k then(p.1,w)else p)=l:=by
  intro l
  induction l with
  |nil=>intro _ h;exact k1 h
  |cons p l ih=>
   intro hn h
   obtain ⟨q,v⟩:=p
   simp only [List.map_cons,List.nodup_cons]at hn
   simp only [List.lookup_cons]at h
   by_cases hk:k=q
   ·subst hk
    simp only [beq_self_eq_true,Option.some.injEq]at h;subst h
    simp only [List.map_cons,if_true]
    congr 1
    conv=>rhs;rw [←List.map_id l]
    refine List.map_congr_left fun p hp=>?_
    have:p.1≠k:=fun e=>hn.1 (by simp only [←e];exact List.mem_map_of_mem hp)
    rw [if_neg this];rfl
   ·have:(k == q)=false:=by simpa using hk
    rw [this]at h
    simp only [List.map_cons]
    rw [if_neg (fun e=>hk e.symm),ih hn.2 h]
 exact this wins hn h
theorem C8u(G:PG S)(hS:t.S5)(hnd:(t.wins.map (·.1)).Nodup)(h2:t.get n=some w)(hl:w.kids.length≤1000)(hk: ∀k∈w.kids,∃wk,t.get k=some wk∧wk.sort≠w.sort∧wk.parent=n)(h:Q .none (St.mk (some (t.put n (w.s_ver (w.ver+1)))) dk nw rl tb fid nam loc tmp cfid cnm cel glb)):
  WC S (d+1) r env 288 [.ref .tree,.int n] (St.mk (some t) dk nw rl tb fid nam loc tmp cfid cnm cel glb) Q X:=by
 refine C5w G fun L=>A6g rfl ?_
 intro K9
 refine A8l .head (ix 1 rfl rfl) (by assumption) (by assumption) rfl (A0k (.tail (.tail .head)) (A0h ?_))
 intro K9
 refine A6j (A0g (⟨Nat.le_of_ble_eq_true rfl,?_⟩))
 refine C5c (.tail (.tail (.tail .head))) (A6l ?_)
 intro K9
 refine B1l (fun _=>rfl) (A2c (ix 2 rfl rfl) (A2f rfl (by assumption) (D3r (l:=w.kids.map .int) ?_)))
 let I9:List Int→St→Prop:=fun m' σ'=> ∃(dn:List Int) (cv ov:Option AV),dn++m'=w.kids∧
  σ'=St.mk (some t) dk nw rl tb L ["tree","number","here","found","child","own"] [some (.ref .tree),some (.int n),some (.ref (.win n)),some (.ref (.tmp L 0)),cv,ov] [some (.list (dn.map .int))] L [] [] []
 refine B0s (l₀:=w.kids.map .int) I9 rfl ⟨[],none,none,rfl,rfl⟩ ?_ ?_ ?_
 ·intro m' σ' h9
  refine A8c h9 fun dn cv ov hd y9a=>?_
  try clear h9
  obtain rfl:=y9a
  exact A7n (σ:=St.mk (some t) _ _ _ _ _ _ _ _ _ _ _ _) rfl h2
 ·intro k m' σ' K9 h9
  refine A8c h9 fun dn cv ov hd y9a=>?_
  try clear h9
  obtain rfl:=y9a
  obtain ⟨wk,g1,g2,g3⟩:=hk k (by rw [←hd];simp)
  have hdl:dn.length≤1000:=by rw [←hd]at hl;simp at hl;exact Nat.le_trans (Nat.le_add_right _ _) hl
  refine A0k (.tail (.tail (.tail (.tail .head)))) (A6g rfl ?_)
  intro K9
  refine A8l .head (ix 4 rfl rfl) (by assumption) (by assumption) rfl (A0k (.tail (.tail (.tail (.tail (.tail .head))))) (A4i ?_))
  intro K9
  refine A6x rfl (ix 5 rfl rfl) (A4g rfl (by assumption) (A2c (ix 2 rfl rfl) (A4g rfl (by assumption) (eqb (⟨fun hb=>absurd (by simpa using hb) g2,fun _=>?_⟩)))))
  refine A0h ?_
  intro K9
  refine A2g rfl rfl (A6y rfl (ix 3 rfl rfl) (B3a rfl C8d (A0d (ix 4 rfl rfl) (D3t C2m (by rw [List.length_map];exact Nat.le_trans hdl (by decide)) (⟨trivial,?_⟩)))))
  refine A5u (A5u (A0a ?_))
  exact B5k (dn++ [k]) _ _ (by refine Eq.trans ?_ (hd).symm.symm;simp) (by simp;exact⟨rfl,rfl⟩)
 ·intro σ' h9
  refine A8c h9 fun dn cv ov hd y9a=>?_
  try clear h9
  obtain rfl:=y9a
  rw [List.append_nil]at hd
  subst hd
  refine A6l ?_
  intro K9
  refine B1l (fun _=>rfl) (A0d (ix 3 rfl rfl) (D3r (l:=w.kids.map .int) ?_))
  let I9:List Int→St→Prop:=fun m' σ'=> ∃(cv:Option AV),(∀k∈m',k∈w.kids)∧
   σ'=St.mk (some t) dk nw rl tb L ["tree","number","here","found","child","own"] [some (.ref .tree),some (.int n),some (.ref (.win n)),some (.ref (.tmp L 0)),cv,ov] [some (.list (w.kids.map .int))] L [] [] []
  refine B0s (l₀:=w.kids.map .int) I9 rfl ⟨cv,fun k h=>h,rfl⟩ ?_ ?_ ?_
  ·intro m' σ' h9
   refine A0e h9 fun cv hin y9a=>?_
   try clear h9
   obtain rfl:=y9a
   simp [St.obj]
  ·intro k m' σ' K9 h9
   refine A0e h9 fun cv hin y9a=>?_
   try clear h9
   obtain rfl:=y9a
   refine A2u (hk k (hin k (.head _))) fun wk g1 g2 g3=>A0k (.tail (.tail (.tail (.tail .head)))) (A8g rfl ?_)
   intro K9
   refine A0d (ix 1 rfl rfl) (A8l .head (ix 4 rfl rfl) (by assumption) (by assumption) rfl (B8m (by assumption) (A0x (A0a ?_))))
   have:wk.s_parent n=wk:=by refine(congrArg _ (g3).symm).trans ?_;rfl
   rw [this,C6z hnd g1]
   exact A1f _ (fun k h=>hin k (.tail _ h)) rfl
  ·intro σ' h9
   refine A0e h9 fun cv hin y9a=>?_
   try clear h9
   obtain rfl:=y9a
   refine A6l ?_
   intro K9
   refine D0k (k:=0) (ks:=w.kids) rfl (ix 3 rfl rfl) (ix 2 rfl rfl) ?_ h2 ?_
   ·rfl
   refine A5u (A1z ?_)
   exact h
noncomputable def A8o(w:Win)(so m:Int):Win:=(((((Win.new so w.parent).s_width w.width).s_height w.height).s_left w.left).s_top w.top)
noncomputable def A8p(t:Tree)(n so m:Int)(w wp:Win):Tree:=
 let t2:=(((t.s_last m).add m (Win.new so w.parent)).put m (A8o w so m))
 let t3:=A2w t2 n m w (A8o w so m) wp
 (t3.put n (w.s_parent m)).put m ((((A8o w so m).s_parent w.parent).s_kids [n]).s_ver 1)
theorem B8g(G:PG S){a:Int}{wp:Win}(hS:t.stg=7)(h2:t.get n=some w)(hp:w.parent≠0)(h3:t.get w.parent=some wp)(ha:(if wp.sort=2 then(0:Int)else 1)=a)(h:Q (.int w.parent) (St.mk (some t) dk nw rl tb fid nam loc tmp cfid cnm cel glb)):WC S (d+4) r env 274 [.ref .tree,.int n,.int a] (St.mk (some t) dk nw rl tb fid nam loc tmp cfid cnm cel glb) Q X:=by
 refine B4m G fun L=>?_
 have h5:=Tree.s5 hS
 refine A6g rfl ?_
 intro K9
 refine A8l .head (ix 1 rfl rfl) (by assumption) (by assumption) rfl (A0k (.tail (.tail (.tail .head))) (A4i ?_))
 intro K9
 refine A7l (A6x rfl (ix 3 rfl rfl) (A3v rfl (by assumption) (A0w (neb (⟨fun _=>?_,fun hb=>by simp [hp]at hb⟩)))))
 refine A7l (A3k rfl (B3w G List.mem_cons_self rfl rfl (A0b rfl (A3q rfl (A6i (A2c .head (A0s rfl (by assumption) (A2c (ix 3 rfl rfl) (A3v rfl (by assumption) (A6q rfl (by assumption) (by assumption) (fun _ _=>rfl) (A4g rfl (by assumption) (A0g (B5a G (A0d (ix 2 rfl rfl) (eqb ?_)))))))))))))))
 refine⟨fun _=>?_,fun hb=>by simp [ha]at hb⟩
 refine A6m (⟨fun _=>?_,(fun h=>nomatch h)⟩)
 refine B1p (A2c (ix 3 rfl rfl) (A3v rfl (by assumption) (tri ?_)))
 exact h
theorem B5z(G:PG S){a:Int}{wp:Win}(hS:t.stg=7)(h2:t.get n=some w)(h3:w.parent≠0→t.get w.parent=some wp∧n∈wp.kids∧wp.kids.length≤1000∧(if wp.sort=2 then(0:Int)else 1)≠a∧w.parent≠n)
  (hm:t.get (t.last+1)=none) (hlen:t.wins.length≤1000) (h:Q (.int (t.last+1)) (St.mk (some (A8p t n (if a=0 then 2 else 1) (t.last+1) w wp)) dk (none) rl tb fid nam loc tmp cfid cnm cel glb)):WC S (d+4) r env 274 [.ref .tree,.int n,.int a] (St.mk (some t) dk (none) rl tb fid nam loc tmp cfid cnm cel glb) Q X:=by
 refine B4m G fun L=>?_
 have h5:=Tree.s5 hS
 have hne:n≠t.last+1:=fun e=>by rw [←e,h2]at hm;exact k2 hm
 have body: ∀(Qx:AF→St→Prop),Qx (.ret (.int (t.last+1))) (St.mk (some (A8p t n (if a=0 then 2 else 1) (t.last+1) w wp)) dk none rl tb L ["tree","number","axis","here","around"] [some (.ref .tree),some (.int n),some (.int a),some (.ref (.win n)),some (.ref (.win (t.last+1)))] [] L [] [] ["along","sort_along","replace_child"])→
   W S (d+3) false (A4h.env L) (RF S) (execs (A4h.body.drop 2) (A4h.env L)) (St.mk (some t) dk none rl tb L ["tree","number","axis","here","around"] [some (.ref .tree),some (.int n),some (.int a),some (.ref (.win n)),none] [] L [] [] ["along","sort_along","replace_child"]) Qx (fun _=>False):=by
  intro Qx hQ
  refine A0h ?_
  intro K9
  refine A5x rfl (A6y rfl .head (A4n G (by assumption) rfl rfl (A0b rfl (B9f G (mi 1 rfl) rfl rfl (A2s (ix 2 rfl rfl) (C0b G (A0b rfl (A2c (ix 3 rfl rfl) (A3v rfl (by assumption) (A0g (C1o G h5 hm hlen ?_)))))))))))
  have gm:((t.s_last (t.last+1)).add (t.last+1) (Win.new (if a=0 then 2 else 1) w.parent)).get (t.last+1)=some (Win.new (if a=0 then 2 else 1) w.parent):=by
   rw [Tree.get_add (by simp only [Tree.get_s_last];exact hm),if_pos rfl]
  have gn: ∀k wk,t.get k=some wk→((t.s_last (t.last+1)).add (t.last+1) (Win.new (if a=0 then 2 else 1) w.parent)).get k=some wk:=fun k wk hk=>by
   rw [Tree.get_add (by simp only [Tree.get_s_last];exact hm),if_neg (fun e=>by rw [e,hm]at hk;exact k1 hk),Tree.get_s_last];exact hk
  have hS1:((t.s_last (t.last+1)).add (t.last+1) (Win.new (if a=0 then 2 else 1) w.parent)).stg=7:=hS
  unfold A8p A8o at hQ
  dsimp only at hQ
  generalize ((t.s_last (t.last+1)).add (t.last+1) (Win.new (if a=0 then 2 else 1) w.parent))=ta at gm gn hS1 hQ
  generalize hwa:Win.new (if a=0 then 2 else 1) w.parent=wa at gm hQ
  have g2:=gn n w h2
  have h51:=Tree.s5 hS1
  refine A0k (.tail (.tail (.tail (.tail .head)))) (A6l ?_)
  intro K9
  refine A2d rfl (by kernel_rfl) rfl rfl rfl (A0z (A0b rfl (A2c (ix 3 rfl rfl) (A4p rfl (by assumption) (A0b rfl (A2c (ix 3 rfl rfl) (A3d rfl (by assumption) (A0b rfl (A2c (ix 3 rfl rfl) (B1v rfl (by assumption) (A0b rfl (A2c (ix 3 rfl rfl) (B6k rfl (by assumption) (A0g (⟨Nat.le_of_ble_eq_true rfl,?_⟩)))))))))))))))
  refine C6m rfl (A4d (A0d (ix 4 rfl rfl) (B8k (by assumption) (A4d (A0d (ix 4 rfl rfl) (B3h (Tree.get_put_self (by assumption) _) (A4d (A0d (ix 4 rfl rfl) (C9i (Tree.get_put_self (Tree.get_put_self (by assumption) _) _) (A4d (A0d (ix 4 rfl rfl) (D3g (Tree.get_put_self (Tree.get_put_self (Tree.get_put_self (by assumption) _) _) _) (A8e (A6l ?_))))))))))))))
  intro K9
  refine A2g rfl rfl (B3u G (mi 2 rfl) rfl rfl (A4y .head (A4y (ix 1 rfl rfl) (A0b rfl (A2c (ix 4 rfl rfl) (A2q rfl (Tree.get_put_self (Tree.get_put_self (Tree.get_put_self (Tree.get_put_self (by assumption) _) _) _) _) (A0g ?_)))))))
  rw [A6p,A6p,A6p]
  have hver:(((((Win.new (if a=0 then 2 else 1) w.parent).s_width w.width).s_height w.height).s_left w.left).s_top w.top).ver=0:=rfl
  rw [hwa]at hver
  generalize hW4:((((wa.s_width w.width).s_height w.height).s_left w.left).s_top w.top)=W4 at hQ hver
  have gp:w.parent≠0→w.parent≠t.last+1:=fun q e=>by have:=(h3 q).1;rw [e,hm]at this;exact k1 this
  have gn2:(ta.put (t.last+1) W4).get n=some w:=(Tree.get_put_ne hne _).trans g2
  have gm2:(ta.put (t.last+1) W4).get (t.last+1)=some W4:=Tree.get_put_self gm _
  have hS2:(ta.put (t.last+1) W4).stg=7:=hS1
  refine B4x (wp:=wp) G hS2 gn2 gm2 (fun q=>⟨(Tree.get_put_ne (gp q) _).trans (gn _ _ (h3 q).1),gp q,(h3 q).2.1,(h3 q).2.2.1⟩) ?_
  have gn3:(A2w (ta.put (t.last+1) W4) n (t.last+1) w W4 wp).get n=some w:=by
   unfold A2w;split
   ·rw [Tree.get_s_root,Tree.get_put_ne hne];exact gn2
   ·rename_i q;rw [Tree.get_put_ne (fun e=>(h3 q).2.2.2.2 e.symm),Tree.get_put_ne hne];exact gn2
  have gm3:(A2w (ta.put (t.last+1) W4) n (t.last+1) w W4 wp).get (t.last+1)=some (W4.s_parent w.parent):=by
   unfold A2w;split
   ·simp only [Tree.get_s_root];exact Tree.get_put_self gm2 _
   ·rename_i q;rw [Tree.get_put_ne (fun e=>gp q e.symm)];exact Tree.get_put_self gm2 _
  generalize A2w (ta.put (t.last+1) W4) n (t.last+1) w W4 wp=tb2 at gn3 gm3 hQ
  have gm4:(tb2.put n (w.s_parent (t.last+1))).get (t.last+1)=some (W4.s_parent w.parent):=(Tree.get_put_ne (fun e=>hne e.symm) _).trans gm3
  refine⟨trivial,?_⟩
  refine A0a (A8g rfl ?_)
  intro K9
  refine A2c (ix 4 rfl rfl) (A2q rfl (by assumption) (A0d (ix 3 rfl rfl) (B8m (by assumption) (A0h ?_))))
  intro K9
  refine D0l (A2s (ix 1 rfl rfl) (D4l (ks:= [n]) (Nat.le_of_ble_eq_true rfl) (ix 4 rfl rfl) gm4 (A0a (B1p (A2c (ix 4 rfl rfl) (A2q rfl (Tree.get_put_self (by assumption) _) ?_))))))
  have ev:(W4.s_parent w.parent).ver=0:=hver
  rw [ev]
  exact hQ
 refine A6g rfl ?_
 intro K9
 refine A8l .head (ix 1 rfl rfl) (by assumption) (by assumption) rfl (A0k (.tail (.tail (.tail .head))) (A4i ?_))
 intro K9
 refine A7l (A6x rfl (ix 3 rfl rfl) (A3v rfl (by assumption) (A0w (neb (⟨fun hb=>?_,fun hb=>?_⟩)))))
 ·refine C8q (h3 (by simpa using hb)) fun q1 q2 q3 q4 q5=>A7l (A3k rfl (B3w G List.mem_cons_self rfl rfl (A0b rfl (A3q rfl (A6i (A2c .head (A0s rfl (by assumption) (A2c (ix 3 rfl rfl) (A3v rfl (by assumption) (A6q rfl (by assumption) (by assumption) (fun _ _=>rfl) (A4g rfl (by assumption) (A0g (B5a G (A0d (ix 2 rfl rfl) ?_))))))))))))))
  refine eqb (⟨fun hb=>absurd (by simpa using hb) q4,fun _=>?_⟩)
  skip
  refine⟨(fun h=>nomatch h),fun _=>?_⟩
  refine A0x (A0a (body _ ?_))
  exact h
 ·skip
  refine⟨(fun h=>nomatch h),fun _=>?_⟩
  refine A0x (A0a (body _ ?_))
  exact h
end
end
section
variable {S:SP} {d:Nat} {r:Bool} {env:Env} {X:St→Prop} {Q:AV→St→Prop}
variable {tr:Option Tree} {dk:Option (List Int×Int)} {nw:Option (Int×Nat×Win)} {rl:Option (Nat×Nat×Int×Int)} {tb:Bool} {fid:Nat} {nam:List Str} {loc:List (Option AV)} {tmp:List (Option CO)} {cfid:Nat} {cnm:List Str} {cel:List (Option AV)} {glb:List Str}
theorem B5l(G:PG S){a1 a2 a3 a4:AV}(h: ∀L,W S d true (A1d.env L) (RF S) (execs A1d.body (A1d.env L)) (St.mk tr dk nw rl tb L ["tree","number","size","axis","whole","new","old"] [some a1,some a2,some a3,some a4,none,none,none] [] L [] [] ["least_size","LispSignal"]) (fun f σ'=>A4r f σ' fun a σ''=>Q a (St.mk σ''.tr σ''.dk σ''.nw σ''.rl σ''.tb fid nam loc tmp cfid cnm cel glb)) (fun σ''=>X (St.mk σ''.tr σ''.dk σ''.nw σ''.rl σ''.tb fid nam loc tmp cfid cnm cel glb))):WC S (d+1) true env 267 [a1,a2,a3,a4] (St.mk tr dk nw rl tb fid nam loc tmp cfid cnm cel glb) Q X:=
 D1r G.f_split_parts rfl fun L=>W.sb (by kernel_rfl) (h L)
theorem C8k(G:PG S){a1 a2 a3 a4 a5:AV}(h: ∀L,W S d true (A6v.env L) (RF S) (execs A6v.body (A6v.env L)) (St.mk tr dk nw rl tb L ["tree","number","size","axis","is_ahead","old","new","parent","model","found","children","at"] [some a1,some a2,some a3,some a4,some a5,none,none,none,none,none,none,none] [] L [] [] ["split_parts","combined","leaves_under","LEAF","list","set_tree_size","joined","set_places"]) (fun f σ'=>A4r f σ' fun a σ''=>Q a (St.mk σ''.tr σ''.dk σ''.nw σ''.rl σ''.tb fid nam loc tmp cfid cnm cel glb)) (fun σ''=>X (St.mk σ''.tr σ''.dk σ''.nw σ''.rl σ''.tb fid nam loc tmp cfid cnm cel glb))):WC S (d+1) true env 281 [a1,a2,a3,a4,a5] (St.mk tr dk nw rl tb fid nam loc tmp cfid cnm cel glb) Q X:=
 D1r G.f_split rfl fun L=>W.sb (by kernel_rfl) (h L)
end
section
variable {S:SP} {d:Nat} {r:Bool} {env:Env} {X:St→Prop} {fid:Nat} {nam:List Str} {cfid:Nat} {cnm:List Str} {glb:List Str} {dk:Option (List Int×Int)} {nw:Option (Int×Nat×Win)} {rl:Option (Nat×Nat×Int×Int)} {tb:Bool} {cel:List (Option AV)} {tmp:List (Option CO)} {tr:Option Tree} {loc:List (Option AV)} {σ:St} {t:Tree} {n:Int} {w:Win}
section
variable {Q:AV→St→Prop}
noncomputable def Win.sz(w:Win)(a:Int):Int:=if a=0 then w.width else w.height
noncomputable def Tree.least(t:Tree)(a:Int):Int:=if a=0 then t.lw else t.lh
theorem A9t(G:PG S){a:Int}{L:Nat}{K:AF→St→Prop}(hS:t.stg=7)(h2:t.get n=some w)(h0:w.sort=0)(hk:w.kids= [])(hw:0≤w.sz a∧w.sz a≤1000000)
  (h: ¬(w.sz a- (w.sz a).fdiv 2<t.least a∨(w.sz a).fdiv 2<t.least a)→K (.ret (.tup [.int (w.sz a- (w.sz a).fdiv 2),.int ((w.sz a).fdiv 2)])) (St.mk (some t) dk nw rl tb L ["tree","number","size","axis","whole","new","old"] [some (.ref .tree),some (.int n),some .none,some (.int a),some (.int (w.sz a)),some (.int ((w.sz a).fdiv 2)),some (.int (w.sz a- (w.sz a).fdiv 2))] [] L [] [] ["least_size","LispSignal"]))
  (hx:(w.sz a- (w.sz a).fdiv 2<t.least a∨(w.sz a).fdiv 2<t.least a)→EK S∧X (St.mk (some t) dk nw rl tb L ["tree","number","size","axis","whole","new","old"] [some (.ref .tree),some (.int n),some .none,some (.int a),some (.int (w.sz a)),some (.int ((w.sz a).fdiv 2)),some (.int (w.sz a- (w.sz a).fdiv 2))] [] L [] [] ["least_size","LispSignal"])):
  W S (d+2) r (A1d.env L) (RF S) (execs A1d.body (A1d.env L)) (St.mk (some t) dk nw rl tb L ["tree","number","size","axis","whole","new","old"] [some (.ref .tree),some (.int n),some .none,some (.int a),none,none,none] [] L [] [] ["least_size","LispSignal"]) K X:=by
 have h5:=Tree.s5 hS
 unfold Win.sz Tree.least at h hx
 refine A6g rfl ?_
 intro K9
 refine A6z rfl (A6y rfl .head (A6o G (by assumption) rfl rfl (A2s (ix 1 rfl rfl) (C2d G h5 h2 (A3l G (by assumption) rfl rfl (A2s (ix 3 rfl rfl) (B6q G h2 (A0k (.tail (.tail (.tail (.tail .head)))) (A4i ?_)))))))))
 intro K9
 refine A6e rfl (ix 2 rfl rfl) (A5w (A8u (fun h=>by contradiction) (isb (⟨fun _=>?_,fun hb=>k12 rfl hb⟩))))
 refine A6g rfl ?_
 intro K9
 refine A0t (A0d (ix 4 rfl rfl) (A0w (D2c (by decide) (PyProof.noPylong_small (Nat.le_of_ble_eq_true rfl)) (A0k (.tail (.tail (.tail (.tail (.tail .head))))) (A0x (A0a (A6g rfl ?_)))))))
 intro K9
 refine A0t (A0d (ix 4 rfl rfl) (A0d (ix 5 rfl rfl) (B9m (A0k (.tail (.tail (.tail (.tail (.tail (.tail .head)))))) (A4i ?_)))))
 intro K9
 refine B5c (A6e rfl (ix 6 rfl rfl) (B9h G List.mem_cons_self rfl rfl (A4y .head (A3j (ix 1 rfl rfl) (ix 3 rfl rfl) (C0d G hS h2 h0 hk (D1g (isb (⟨fun hb=>?_,fun hb=>?_⟩))))))))
 ·have hb:=of_decide_eq_true hb
  refine A0f (hx (.inl hb)) fun E hX=>⟨fun _=>?_,(fun h=>nomatch h)⟩
  refine A0h ?_
  intro K9
  refine C4a G E.toEX (mi 1 rfl) E.kp rfl rfl (A0b rfl (A5h (A0b rfl (A5j (A0b rfl (A5h (A0g (⟨Nat.le_of_ble_eq_true rfl,?_⟩))))))))
  refine A0g ?_
  exact⟨rfl,hX⟩
 ·have hb:=of_decide_eq_false hb
  refine B5c (A6e rfl (ix 5 rfl rfl) (A6y rfl .head (A4m G (by assumption) rfl rfl (A2s (ix 3 rfl rfl) (B2j G hS (D1g (isb (⟨fun hb2=>?_,fun hb2=>?_⟩))))))))
  ·have hb2:=of_decide_eq_true hb2
   refine A0f (hx (.inr hb2)) fun E hX=>⟨fun _=>?_,(fun h=>nomatch h)⟩
   refine A0h ?_
   intro K9
   refine C4a G E.toEX (mi 1 rfl) E.kp rfl rfl (A0b rfl (A5h (A0b rfl (A5j (A0b rfl (A5h (A0g (⟨Nat.le_of_ble_eq_true rfl,?_⟩))))))))
   refine A0g ?_
   exact⟨rfl,hX⟩
  ·have hb2:=of_decide_eq_false hb2
   refine A5y (⟨(fun h=>nomatch h),fun _=>?_⟩)
   refine A0x (A6l ?_)
   intro K9
   refine A0u (A0z (A3j (ix 6 rfl rfl) (ix 5 rfl rfl) (⟨Nat.le_of_ble_eq_true rfl,?_⟩)))
   refine A0m ?_
   exact h (fun q=>q.elim hb hb2)
theorem A8i(G:PG S){a:Int}(hS:t.stg=7)(h2:t.get n=some w)(h0:w.sort=0)(hk:w.kids= [])(hw:0≤w.sz a∧w.sz a≤1000000)(hb:t.least a≤w.sz a- (w.sz a).fdiv 2∧t.least a≤(w.sz a).fdiv 2)
  (h:Q (.tup [.int (w.sz a- (w.sz a).fdiv 2),.int ((w.sz a).fdiv 2)]) (St.mk (some t) dk nw rl tb fid nam loc tmp cfid cnm cel glb)):WC S (d+3) r env 267 [.ref .tree,.int n,.none,.int a] (St.mk (some t) dk nw rl tb fid nam loc tmp cfid cnm cel glb) Q X:=
 B5n G fun L=>A9t G hS h2 h0 hk hw (fun _=>A6b h) (fun q=>by omega)
theorem B4u(G:PG S)(E:EK S){a:Int}(hS:t.stg=7)(h2:t.get n=some w)(h0:w.sort=0)(hk:w.kids= [])(hw:0≤w.sz a∧w.sz a≤1000000)(hb: ¬(t.least a≤w.sz a- (w.sz a).fdiv 2∧t.least a≤(w.sz a).fdiv 2))
  (h:X (St.mk (some t) dk nw rl tb fid nam loc tmp cfid cnm cel glb)):WC S (d+3) true env 267 [.ref .tree,.int n,.none,.int a] (St.mk (some t) dk nw rl tb fid nam loc tmp cfid cnm cel glb) Q X:=
 B5l G fun L=>A9t G hS h2 h0 hk hw (fun q=>by omega) (fun _=>⟨E,h⟩)
end
section
variable {Q:AV→St→Prop}
noncomputable def A5d(w:Win)(p a v:Int):Win:=((((((Win.new 0 p).s_width w.width).s_height w.height).setSize a v).setSize (1-a) (w.sz (1-a))).show4 w.buf w.start w.point w.hscroll).s_ear w.ear
noncomputable def A1k(t:Tree)(n p a old new:Int)(w wp:Win):Tree:=
 let m:=t.last+1
 let wp':=wp.s_kids (wp.kids.take (wp.kids.idxOf n+1)++m::wp.kids.drop (wp.kids.idxOf n+1))
 (((((t.s_last m).add m (A5d w p a new)).put p wp').put n (w.setSize a old)).put p (wp'.s_ver (wp.ver+1)))
theorem C6f{t:Tree}{m:Int}(h:t.get m=none)(w w':Win):(t.add m w).put m w'=t.add m w':=by
 have hn:=Tree.get_none h
 obtain ⟨wins,a,b,c,e,f,g,i⟩:=t
 unfold Tree.put Tree.add;simp only [Tree.mk.injEq,and_true,List.map_append,List.map_cons,List.map_nil,if_true]
 congr 1
 conv=>rhs;rw [←List.map_id wins]
 refine List.map_congr_left fun p hp=>(if_neg (fun e=>hn (by rw [←e];exact List.mem_map_of_mem hp))).trans ?_;rfl
theorem C2f(G:PG S){a p old new:Int}{wp:Win}{l:List AV}{L:Nat}{sh':Sh}{K:AF→St→Prop}{sv:AV}(hS:t.stg=7)(hnd:(t.wins.map (·.1)).Nodup)(h2:t.get n=some w)(h0:w.sort=0)(hk:w.kids= [])
  (h3:t.get p=some wp) (hpn:p≠n) (hin:n∈wp.kids) (hlk:wp.kids.length≤900) (hkids: ∀k∈wp.kids,∃wk,t.get k=some wk∧wk.sort≠wp.sort∧wk.parent=p) (hps:wp.sort≠0)
  (hm:t.get (t.last+1)=none) (hlen:t.wins.length≤1000) (hear:w.ear= .lst l) (hl:l.length≤1000) (hr:t.root=sh'.num) (hR:sh'.Rep (A1k t n p a old new w wp)) (hN:sh'.all.length≤1000)
  (h: ∀t' cv av,SameP sh'.all (A1k t n p a old new w wp) t'→PlRun (A1k t n p a old new w wp) [(sh',0,0)] (A1k t n p a old new w wp) t'→K (.ret (.int (t.last+1))) (St.mk (some t') dk none rl tb L ["tree","number","size","axis","is_ahead","old","new","parent","model","found","children","at"] [some (.ref .tree),some (.int n),some sv,some (.int a),some (.bool false),some (.int old),some (.int new),some (.int p),some (.ref (.win n)),some (.ref (.win (t.last+1))),cv,av] [] L [] [] ["split_parts","combined","leaves_under","LEAF","list","set_tree_size","joined","set_places"])):
  W S (d+4) r (A6v.env L) (RF S) (execs (A6v.body.drop 2) (A6v.env L)) (St.mk (some t) dk none rl tb L ["tree","number","size","axis","is_ahead","old","new","parent","model","found","children","at"] [some (.ref .tree),some (.int n),some sv,some (.int a),some (.bool false),some (.int old),some (.int new),some (.int p),none,none,none,none] [] L [] [] ["split_parts","combined","leaves_under","LEAF","list","set_tree_size","joined","set_places"]) K X:=by
 have h5:=Tree.s5 hS
 refine A0i G.c_LEAF fun t1 e1=>?_
 have hne:n≠t.last+1:=fun e=>by rw [←e,h2]at hm;exact k2 hm
 have hRn:(Sh.mk n []).Rep t:=by simp only [Sh.Rep.e0];exact⟨⟨w,h2,by exact hk,by simp [h0]⟩,trivial⟩
 refine A6g rfl ?_
 intro K9
 refine A6i (A2c .head (A0s rfl (by assumption) (A6i (A7m G (mi 2 rfl) rfl rfl (A3j .head (ix 1 rfl rfl) (A7o (sh:=Sh.mk n []) G h5 hRn (Nat.le_of_ble_eq_true rfl) (A0w (A6a (i:=0) (b:= .int n) A1g (by decide) (by decide) rfl (fun _ _=>rfl) (A6q rfl (by assumption) (by assumption) (fun _ _=>rfl) (A0k (.tail (.tail (.tail (.tail (.tail (.tail (.tail (.tail .head)))))))) (A0h ?_)))))))))))
 intro K9
 refine A5x rfl (A6y rfl .head (A4n G (by assumption) rfl rfl (A0b rfl (A3p (mi 3 rfl) (by assumption) (A2s (ix 7 rfl rfl) (C1o G h5 hm hlen ?_))))))
 have hT:(t.s_last (t.last+1)).get (t.last+1)=none:=by simp only [Tree.get_s_last];exact hm
 have gm: ∀W,((t.s_last (t.last+1)).add (t.last+1) W).get (t.last+1)=some W:=fun W=>by
  rw [Tree.get_add hT,if_pos rfl]
 have gn: ∀W k wk,t.get k=some wk→((t.s_last (t.last+1)).add (t.last+1) W).get k=some wk:=fun W k wk hk=>by
  rw [Tree.get_add hT,if_neg (fun e=>by rw [e,hm]at hk;exact k1 hk),Tree.get_s_last];exact hk
 have hS1: ∀W,((t.s_last (t.last+1)).add (t.last+1) W).stg=7:=fun W=>hS
 have hpm:p≠t.last+1:=fun e=>by rw [←e,h3]at hm;exact k2 hm
 unfold A1k at h hR
 dsimp only at h hR
 generalize hwp':wp.s_kids (wp.kids.take (wp.kids.idxOf n+1)++(t.last+1)::wp.kids.drop (wp.kids.idxOf n+1))=wp' at h hR
 have ap:=fun W W'=>C6f hT W W'
 have gm1:=gm (Win.new 0 p);have gn1:=gn (Win.new 0 p) n w h2
 refine A0k (.tail (.tail (.tail (.tail (.tail (.tail (.tail (.tail (.tail .head))))))))) (A6l ?_)
 intro K9
 refine A2d rfl (by kernel_rfl) rfl rfl rfl (A0z (A0b rfl (A2c (ix 8 rfl rfl) (A4p rfl (by assumption) (A0b rfl (A2c (ix 8 rfl rfl) (A3d rfl (by assumption) (A0g (⟨Nat.le_of_ble_eq_true rfl,?_⟩)))))))))
 refine C6m rfl (A4d (A0d (ix 9 rfl rfl) (B8k (by assumption) (A4d (A0d (ix 9 rfl rfl) (B3h (Tree.get_put_self (by assumption) _) (A8e (A6l ?_))))))))
 intro K9
 refine A2g rfl rfl (A6y rfl (ix 9 rfl rfl) (A5b G (Tree.get_put_self (Tree.get_put_self (by assumption) _) _) rfl rfl (A3j (ix 3 rfl rfl) (ix 6 rfl rfl) ?_)))
 rw [ap,ap]
 have gm2:=gm (((Win.new 0 p).s_width w.width).s_height w.height)
 refine B1z G gm2 ?_
 rw [ap]
 have gm3:=gm ((((Win.new 0 p).s_width w.width).s_height w.height).setSize a new)
 have gn3:=gn ((((Win.new 0 p).s_width w.width).s_height w.height).setSize a new) n w h2
 have s3:=Tree.s5 (hS1 ((((Win.new 0 p).s_width w.width).s_height w.height).setSize a new))
 refine⟨trivial,?_⟩
 refine A6l ?_
 intro K9
 refine A2g rfl rfl (A6y rfl (ix 9 rfl rfl) (A5b G (by assumption) rfl rfl (A0b rfl (A0t (A0w (A0d (ix 3 rfl rfl) (B9m (A0b rfl (A6z rfl (A8l .head (ix 1 rfl rfl) (Tree.S5.add (Tree.S5.s_last (by assumption))) (by assumption) rfl (A3l G (by assumption) rfl rfl (A0b rfl (A0t (A0w (A0d (ix 3 rfl rfl) ?_)))))))))))))))
 refine B9m (A0g (B6q G gn3 (A0g (B1z G gm3 ?_))))
 rw [ap,show(if 1-a=0 then w.width else w.height)=w.sz (1-a) from rfl]
 have gm4:=gm (((((Win.new 0 p).s_width w.width).s_height w.height).setSize a new).setSize (1-a) (w.sz (1-a)))
 have gn4:=gn (((((Win.new 0 p).s_width w.width).s_height w.height).setSize a new).setSize (1-a) (w.sz (1-a))) n w h2
 generalize hW4:((((Win.new 0 p).s_width w.width).s_height w.height).setSize a new).setSize (1-a) (w.sz (1-a))=W4 at gm4 gn4
 have s4:=Tree.s5 (hS1 W4)
 refine⟨trivial,?_⟩
 refine A6l ?_
 intro K9
 refine A2g rfl rfl (A6y rfl (ix 9 rfl rfl) (A5z G (by assumption) rfl rfl (A0b rfl (A6y rfl (ix 8 rfl rfl) (A3r G (by assumption) (B4v G gn4 ?_))))))
 unfold Win.shownAV
 refine A0g (C2e G gm4 ?_)
 rw [ap]
 have gm5:=gm (W4.show4 w.buf w.start w.point w.hscroll)
 have gn5:=gn (W4.show4 w.buf w.start w.point w.hscroll) n w h2
 generalize hW5:W4.show4 w.buf w.start w.point w.hscroll=W5 at gm5 gn5
 have s5:=Tree.s5 (hS1 W5)
 refine⟨trivial,?_⟩
 refine A0a (A8g rfl ?_)
 intro K9
 refine D1v G (mi 4 rfl) rfl rfl (A0b rfl (A2c (ix 8 rfl rfl) (B1f gn5 (by rw [hear];exact fun h=>by contradiction) ?_)))
 simp only [hear]
 refine A0g (b_list A1g (by exact Nat.le_trans hl (by decide)) (A0d (ix 9 rfl rfl) (B1e (by assumption) (A6g rfl ?_))))
 intro K9
 refine A3q rfl (A6i (A2c .head (A0s rfl (Tree.S5.put (Tree.S5.add (Tree.S5.s_last (by assumption)))) (A0d (ix 7 rfl rfl) ?_))))
 rw [ap]
 have gm6:=gm (W5.s_ear (.lst l))
 have gp6:=gn (W5.s_ear (.lst l)) p wp h3
 have gn6:=gn (W5.s_ear (.lst l)) n w h2
 have eW:W5.s_ear (.lst l)=A5d w p a new:=by simp only [←hW5,←hW4,←hear];rfl
 rw [eW]at gm6 gp6 gn6 ⊢
 have s6:=Tree.s5 (hS1 (A5d w p a new))
 refine A6q rfl (Tree.S5.add (Tree.S5.s_last (by assumption))) (by assumption) (fun _ _=>rfl) (A2f rfl (by assumption) (A0k (.tail (.tail (.tail (.tail (.tail (.tail (.tail (.tail (.tail (.tail .head)))))))))) (A6g rfl ?_)))
 intro K9
 refine A6y rfl (ix 10 rfl rfl) (C5l rfl gp6 (A0d (ix 1 rfl rfl) (C8a n wp.kids rfl (B0c gp6) (by exact Nat.le_trans hlk (by decide)) hin (A0k (.tail (.tail (.tail (.tail (.tail (.tail (.tail (.tail (.tail (.tail (.tail .head))))))))))) (A0h ?_)))))
 intro K9
 refine A2g rfl rfl (A6y rfl (ix 10 rfl rfl) (C7x rfl rfl gp6 (A0b rfl (A6k (A7k rfl (A0d (ix 4 rfl rfl) (isb (⟨fun hb=>by exact k4 hb,fun _=>?_⟩))))))))
 refine A0t (A0d (ix 11 rfl rfl) (A0w (B0a (A0b rfl (A2c (ix 9 rfl rfl) (A2q rfl (by assumption) (A0g ?_)))))))
 have hix:=List.idxOf_lt_length_of_mem hin
 refine C8a (wp.kids.idxOf n+1) (t.last+1) rfl (by exact Nat.le_trans hlk (by decide)) (by assumption) rfl ?_
 rw [hwp']
 dsimp only
 generalize hta:(t.s_last (t.last+1)).add (t.last+1) (A5d w p a new)=ta at gm6 gp6 gn6 s6 h hR ⊢
 have gp7:(ta.put p wp').get p=some wp':=Tree.get_put_self gp6 _
 have gn7:(ta.put p wp').get n=some w:=(Tree.get_put_ne (Ne.symm hpn) _).trans gn6
 have s7:(ta.put p wp').stg=7:=by show ta.stg=7;refine(congrArg _ (hta).symm).trans ?_;exact hS
 refine⟨trivial,?_⟩
 refine A6l ?_
 intro K9
 refine A2g rfl rfl (B3t G (mi 5 rfl) rfl rfl (A4y .head (A4y (ix 1 rfl rfl) (A3j (ix 3 rfl rfl) (ix 5 rfl rfl) (B4w G s7 gn7 h0 (⟨trivial,?_⟩))))))
 refine A6l ?_
 intro K9
 refine A2g rfl rfl (C6x G (mi 6 rfl) rfl rfl (A3j .head (ix 7 rfl rfl) ?_))
 have gm8:((ta.put p wp').put n (w.setSize a old)).get (t.last+1)=some (A5d w p a new):=(Tree.get_put_ne (Ne.symm hne) _).trans ((Tree.get_put_ne (Ne.symm hpm) _).trans gm6)
 have gp8:((ta.put p wp').put n (w.setSize a old)).get p=some wp':=(Tree.get_put_ne hpn _).trans gp7
 have gn8:((ta.put p wp').put n (w.setSize a old)).get n=some (w.setSize a old):=Tree.get_put_self gn7 _
 have ek:wp'.kids=wp.kids.take (wp.kids.idxOf n+1)++(t.last+1)::wp.kids.drop (wp.kids.idxOf n+1):=by refine(congrArg _ (hwp').symm).trans ?_;rfl
 have es:wp'.sort=wp.sort:=by refine(congrArg _ (hwp').symm).trans ?_;rfl
 have ev:wp'.ver=wp.ver:=by refine(congrArg _ (hwp').symm).trans ?_;rfl
 have ess:(w.setSize a old).sort=w.sort∧(w.setSize a old).parent=w.parent:=by unfold Win.setSize;split <;> exact⟨rfl,rfl⟩
 have el:(A5d w p a new).sort=0∧(A5d w p a new).parent=p:=by unfold A5d Win.setSize;constructor <;> (split <;> split <;> rfl)
 have s8:((ta.put p wp').put n (w.setSize a old)).stg=7:=s7
 have hnd8:(((ta.put p wp').put n (w.setSize a old)).wins.map (·.1)).Nodup:=by
  rw [Tree.keys_put,Tree.keys_put,←hta]
  show((t.wins++ [(t.last+1,A5d w p a new)]).map (·.1)).Nodup
  rw [List.map_append]
  refine List.nodup_append.mpr ⟨hnd,by simp,fun x hx y hy e=>Tree.get_none hm ?_⟩
  simp at hy;subst hy;simp only [←e];exact hx
 refine C8u G (Tree.s5 s8) hnd8 gp8 ?_ ?_ ?_
 ·rw [ek];simp;lia
 ·intro k hk'
  rw [es]
  by_cases q1:k=t.last+1
  ·subst q1;exact⟨_,gm8,by rw [el.1];exact Ne.symm hps,el.2⟩
  ·have hk2:k∈wp.kids:=by
    rw [ek]at hk'
    simp [List.mem_append,List.mem_cons]at hk'
    rcases hk' with hk'|hk'|hk'
    ·exact List.mem_of_mem_take hk'
    ·exact absurd hk' q1
    ·exact List.mem_of_mem_drop hk'
   refine A2u (hkids k hk2) fun wk g1 g2 g3=>?_
   by_cases q2:k=n
   ·subst q2;rw [h2]at g1;cases g1
    exact A8n _ gn8 (by rw [ess.1];exact g2) (ess.2.trans g3)
   ·have hkp:k≠p:=fun e=>by rw [e,h3]at g1;cases g1;exact g2 rfl
    refine A8n wk ((Tree.get_put_ne q2 _).trans ((Tree.get_put_ne hkp _).trans ?_)) g2 g3
    rw [←hta];exact gn _ k wk g1
 rw [ev]
 have s9:(((ta.put p wp').put n (w.setSize a old)).put p (wp'.s_ver (wp.ver+1))).stg=7:=s8
 refine⟨trivial,?_⟩
 refine A6l ?_
 intro K9
 refine A2g rfl rfl (B9g G (mi 7 rfl) rfl rfl (A2s .head (C0c G s9 (sh:=sh') ?_ hR hN fun t' hsp hrun=>?_)))
 ·rw [←hr,←hta];rfl
 have gm9:(((ta.put p wp').put n (w.setSize a old)).put p (wp'.s_ver (wp.ver+1))).get (t.last+1)=some (A5d w p a new):=(Tree.get_put_ne (Ne.symm hpm) _).trans gm8
 refine A0e (hsp.some gm9) fun wm gwm _=>⟨trivial,?_⟩
 refine A0a (B1p (A2c (ix 9 rfl rfl) (A2q rfl (by assumption) ?_)))
 exact h t' _ _ hsp hrun
theorem C6a(G:PG S)(E:EK S){a:Int}(hS:t.stg=7)(h2:t.get n=some w)(h0:w.sort=0)(hk:w.kids= [])(hw:0≤w.sz a∧w.sz a≤1000000)(hb: ¬(t.least a≤w.sz a- (w.sz a).fdiv 2∧t.least a≤(w.sz a).fdiv 2))
  (h:X (St.mk (some t) dk nw rl tb fid nam loc tmp cfid cnm cel glb)):WC S (d+5) true env 281 [.ref .tree,.int n,.none,.int a,.bool false] (St.mk (some t) dk nw rl tb fid nam loc tmp cfid cnm cel glb) Q X:=by
 refine C8k G fun L=>?_
 have h5:=Tree.s5 hS
 refine A0h ?_
 intro K9
 refine A2d rfl (by kernel_rfl) rfl rfl rfl (A7w G List.mem_cons_self rfl rfl (A4y .head (A4y (ix 1 rfl rfl) (A3j (ix 2 rfl rfl) (ix 3 rfl rfl) (B4u G E hS h2 h0 hk hw hb ?_)))))
 exact h
theorem C3k(G:PG S){a:Int}{wp:Win}{l:List AV}{sh':Sh}(hS:t.stg=7)(hnd:(t.wins.map (·.1)).Nodup)(h2:t.get n=some w)(h0:w.sort=0)(hk:w.kids= [])(hw:0≤w.sz a∧w.sz a≤1000000)(hb:t.least a≤w.sz a- (w.sz a).fdiv 2∧t.least a≤(w.sz a).fdiv 2)
  (hp:w.parent≠0) (h3:t.get w.parent=some wp) (ha:(if wp.sort=2 then(0:Int)else 1)=a) (hpn:w.parent≠n) (hin:n∈wp.kids) (hlk:wp.kids.length≤900) (hkids: ∀k∈wp.kids,∃wk,t.get k=some wk∧wk.sort≠wp.sort∧wk.parent=w.parent) (hps:wp.sort≠0)
  (hm:t.get (t.last+1)=none) (hlen:t.wins.length≤1000) (hear:w.ear= .lst l) (hl:l.length≤1000) (hr:t.root=sh'.num) (hR:sh'.Rep (A1k t n w.parent a (w.sz a- (w.sz a).fdiv 2) ((w.sz a).fdiv 2) w wp)) (hN:sh'.all.length≤1000)
  (h: ∀t',SameP sh'.all (A1k t n w.parent a (w.sz a- (w.sz a).fdiv 2) ((w.sz a).fdiv 2) w wp) t'→PlRun (A1k t n w.parent a (w.sz a- (w.sz a).fdiv 2) ((w.sz a).fdiv 2) w wp) [(sh',0,0)] (A1k t n w.parent a (w.sz a- (w.sz a).fdiv 2) ((w.sz a).fdiv 2) w wp) t'→
   Q (.int (t.last+1)) (St.mk (some t') dk (none) rl tb fid nam loc tmp cfid cnm cel glb)):WC S (d+5) r env 281 [.ref .tree,.int n,.none,.int a,.bool false] (St.mk (some t) dk (none) rl tb fid nam loc tmp cfid cnm cel glb) Q X:=by
 refine C2b G fun L=>?_
 have h5:=Tree.s5 hS
 refine A0h ?_
 intro K9
 refine A2d rfl (by kernel_rfl) rfl rfl rfl (A7w G List.mem_cons_self rfl rfl (A4y .head (A4y (ix 1 rfl rfl) (A3j (ix 2 rfl rfl) (ix 3 rfl rfl) (A8i G hS h2 h0 hk hw hb (C6m rfl (A4q (A0k (.tail (.tail (.tail (.tail (.tail .head))))) (A4q (A0k (.tail (.tail (.tail (.tail (.tail (.tail .head)))))) (A8e (A6l ?_))))))))))))
 intro K9
 refine A5x rfl (B6e G (mi 1 rfl) rfl rfl (A4y .head (A3j (ix 1 rfl rfl) (ix 3 rfl rfl) (B8g G hS h2 hp h3 ha (D5h (.tail (.tail (.tail (.tail (.tail (.tail (.tail .head))))))) (A0a ?_))))))
 exact C2f G hS hnd h2 h0 hk h3 hpn hin hlk hkids hps hm hlen hear hl hr hR hN fun t' cv av q1 q2=>h t' q1 q2
noncomputable def A5e(w:Win)(n so m:Int):Win:=(((A8o w so m).s_parent w.parent).s_kids [n]).s_ver 1
theorem B4s{so m:Int}{wp:Win}(h2:t.get n=some w)(h3:w.parent≠0→t.get w.parent=some wp∧w.parent≠n)(hm:t.get m=none)(k:Int):
  (A8p t n so m w wp).get k=if k=m then some (A5e w n so m)else if k=n then some (w.s_parent m)else if w.parent≠0∧k=w.parent then some (wp.s_kids (wp.kids.set (wp.kids.idxOf n) m))else t.get k:=by
 have hT:(t.s_last m).get m=none:=by simp only [Tree.get_s_last];exact hm
 have hne:n≠m:=fun e=>by rw [e,hm]at h2;exact k1 h2
 unfold A8p
 dsimp only
 rw [C6f hT]
 have gm:((t.s_last m).add m (A8o w so m)).get m=some (A8o w so m):=by rw [Tree.get_add hT,if_pos rfl]
 have gn: ∀k,k≠m→((t.s_last m).add m (A8o w so m)).get k=t.get k:=fun k hk=>by rw [Tree.get_add hT,if_neg hk,Tree.get_s_last]
 generalize (t.s_last m).add m (A8o w so m)=ta at gm gn
 have g1:(ta.put m ((A8o w so m).s_parent w.parent)).get m=some ((A8o w so m).s_parent w.parent):=Tree.get_put_self gm _
 have g2: ∀k,k≠m→(ta.put m ((A8o w so m).s_parent w.parent)).get k=t.get k:=fun k hk=>(Tree.get_put_ne hk _).trans (gn k hk)
 have R: ∀k,(A2w ta n m w (A8o w so m) wp).get k=if k=m then some ((A8o w so m).s_parent w.parent)else if w.parent≠0∧k=w.parent then some (wp.s_kids (wp.kids.set (wp.kids.idxOf n) m))else t.get k:=fun k=>by
  unfold A2w
  by_cases hp:w.parent=0
  ·simp only [if_pos hp,Tree.get_s_root]
   by_cases q:k=m
   ·subst q;refine Eq.trans ?_ (if_pos rfl).symm;exact g1
   ·rw [if_neg q,if_neg (fun h=>h.1 hp)];exact g2 k q
  ·rw [if_neg hp]
   refine A0f (h3 hp) fun q1 q2=>?_
   have hpm:w.parent≠m:=fun e=>by rw [e,hm]at q1;exact k1 q1
   by_cases q:k=m
   ·subst q;rw [if_pos rfl];exact(Tree.get_put_ne (Ne.symm hpm) _).trans g1
   ·rw [if_neg q]
    by_cases q3:k=w.parent
    ·subst q3;rw [if_pos ⟨hp,rfl⟩];exact Tree.get_put_self ((g2 _ q).trans q1) _
    ·rw [if_neg (fun h=>q3 h.2)];exact(Tree.get_put_ne q3 _).trans (g2 k q)
 generalize A2w ta n m w (A8o w so m) wp=tc at R
 have r1:tc.get n=some w:=by
  refine(((R n).trans (if_neg hne)).trans (if_neg (fun h:w.parent≠0∧n=w.parent=>(h3 h.1).2 h.2.symm))).trans ?_;exact h2
 have r2:(tc.put n (w.s_parent m)).get m=some ((A8o w so m).s_parent w.parent):=(Tree.get_put_ne (Ne.symm hne) _).trans (by exact((R m).trans (if_pos rfl)))
 by_cases q:k=m
 ·subst q;rw [if_pos rfl];exact Tree.get_put_self r2 _
 ·simp only [if_neg q,Tree.get_put_ne q]
  by_cases q2:k=n
  ·subst q2;rw [if_pos rfl];exact Tree.get_put_self r1 _
  ·simp only [if_neg q2,Tree.get_put_ne q2,R k,if_neg q]
theorem B6p{so m:Int}{wp:Win}:(A8p t n so m w wp).wins.map (·.1)=t.wins.map (·.1)++ [m]:=by
 unfold A8p A2w
 dsimp only
 simp only [Tree.keys_put,Tree.keys_put]
 split
 ·show ((((t.s_last m).add m (Win.new so w.parent)).put m (A8o w so m)).put m _).wins.map (fun p:Int×Win=>p.1)=_
  simp only [Tree.keys_put,Tree.keys_put];show(t.wins++ [(m,_)]).map (fun p:Int×Win=>p.1)=_;simp
 ·simp only [Tree.keys_put,Tree.keys_put,Tree.keys_put];show(t.wins++ [(m,_)]).map (fun p:Int×Win=>p.1)=_;simp
theorem B1x{so m:Int}{wp:Win}:(A8p t n so m w wp).last=m∧(A8p t n so m w wp).clock=t.clock∧(A8p t n so m w wp).lw=t.lw∧(A8p t n so m w wp).lh=t.lh∧(A8p t n so m w wp).sel=t.sel∧(A8p t n so m w wp).stg=t.stg∧(A8p t n so m w wp).root=if w.parent=0 then m else t.root:=by
 unfold A8p A2w
 dsimp only
 split <;> exact⟨rfl,rfl,rfl,rfl,rfl,rfl,rfl⟩
theorem C1n(G:PG S){a:Int}{wp:Win}{l:List AV}{sh':Sh}{T1:Tree}{m:Int}(hmm:m=t.last+1)(hT1:T1=A8p t n (if a=0 then 2 else 1) m w wp)(hS:t.stg=7)(hnd:(t.wins.map (·.1)).Nodup)(h2:t.get n=some w)(h0:w.sort=0)(hk:w.kids= [])(hw:0≤w.sz a∧w.sz a≤1000000)(hb:t.least a≤w.sz a- (w.sz a).fdiv 2∧t.least a≤(w.sz a).fdiv 2)
  (h3:w.parent≠0→t.get w.parent=some wp∧n∈wp.kids∧wp.kids.length≤1000∧(if wp.sort=2 then(0:Int)else 1)≠a∧w.parent≠n)
  (hm:t.get m=none) (hm2:t.get (m+1)=none) (hlen:t.wins.length≤900) (hear:w.ear= .lst l) (hl:l.length≤1000)
  (hr:T1.root=sh'.num) (hR:sh'.Rep (A1k T1 n m a (w.sz a- (w.sz a).fdiv 2) ((w.sz a).fdiv 2) (w.s_parent m) (A5e w n (if a=0 then 2 else 1) m))) (hN:sh'.all.length≤1000)
  (h: ∀t',SameP sh'.all (A1k T1 n m a (w.sz a- (w.sz a).fdiv 2) ((w.sz a).fdiv 2) (w.s_parent m) (A5e w n (if a=0 then 2 else 1) m)) t'→PlRun (A1k T1 n m a (w.sz a- (w.sz a).fdiv 2) ((w.sz a).fdiv 2) (w.s_parent m) (A5e w n (if a=0 then 2 else 1) m)) [(sh',0,0)] (A1k T1 n m a (w.sz a- (w.sz a).fdiv 2) ((w.sz a).fdiv 2) (w.s_parent m) (A5e w n (if a=0 then 2 else 1) m)) t'→
   Q (.int (m+1)) (St.mk (some t') dk (none) rl tb fid nam loc tmp cfid cnm cel glb)):WC S (d+5) r env 281 [.ref .tree,.int n,.none,.int a,.bool false] (St.mk (some t) dk (none) rl tb fid nam loc tmp cfid cnm cel glb) Q X:=by
 subst hmm
 have cg:=B4s (so:=if a=0 then 2 else 1) h2 (fun q=>⟨(h3 q).1,(h3 q).2.2.2.2⟩) hm
 have ck:=B6p (t:=t) (n:=n) (w:=w) (so:=if a=0 then 2 else 1) (m:=t.last+1) (wp:=wp)
 have cr:=B1x (t:=t) (n:=n) (w:=w) (so:=if a=0 then 2 else 1) (m:=t.last+1) (wp:=wp)
 rw [←hT1]at cg ck cr
 have hne:n≠t.last+1:=fun e=>by rw [←e,h2]at hm;exact k2 hm
 have c1:T1.get n=some (w.s_parent (t.last+1)):=by rw [cg,if_neg hne,if_pos rfl]
 have c2:T1.get (t.last+1)=some (A5e w n (if a=0 then 2 else 1) (t.last+1)):=by rw [cg,if_pos rfl]
 have hlast:T1.last+1=t.last+1+1:=by exact(cr.1)▸rfl
 have c3:T1.get (T1.last+1)=none:=by
  rw [hlast,cg,if_neg (by exact Z23),if_neg (fun e:t.last+1+1=n=>by rw [e,h2]at hm2;exact k2 hm2),if_neg (fun q:w.parent≠0∧t.last+1+1=w.parent=>by have:=(h3 q.1).1;rw [←q.2,hm2]at this;exact k1 this)];exact hm2
 have hso:(if a=0 then(2:Int)else 1)≠0:=by split <;> decide
 refine C2b G fun L=>?_
 have h5:=Tree.s5 hS
 refine A0h ?_
 intro K9
 refine A2d rfl (by kernel_rfl) rfl rfl rfl (A7w G List.mem_cons_self rfl rfl (A4y .head (A4y (ix 1 rfl rfl) (A3j (ix 2 rfl rfl) (ix 3 rfl rfl) (A8i G hS h2 h0 hk hw hb (C6m rfl (A4q (A0k (.tail (.tail (.tail (.tail (.tail .head))))) (A4q (A0k (.tail (.tail (.tail (.tail (.tail (.tail .head)))))) (A8e (A6l ?_))))))))))))
 intro K9
 refine A5x rfl (B6e G (mi 1 rfl) rfl rfl (A4y .head (A3j (ix 1 rfl rfl) (ix 3 rfl rfl) (B5z G hS h2 h3 hm (by exact Nat.le_trans hlen (by decide)) ?_))))
 rw [←hT1]
 refine D5h (.tail (.tail (.tail (.tail (.tail (.tail (.tail .head))))))) (A0a (C2f (w:=w.s_parent (t.last+1)) (wp:=A5e w n (if a=0 then 2 else 1) (t.last+1)) (l:=l) G (cr.2.2.2.2.2.1.trans hS) ?_ c1 h0 hk c2 (Ne.symm hne) (.head _) (Nat.le_of_ble_eq_true rfl) ?_ hso c3 ?_ hear hl hr hR hN fun t' cv av q1 q2=>?_))
 ·rw [ck]
  exact List.nodup_append.mpr ⟨hnd,by simp,fun x hx y hy (e:x=y)=>Tree.get_none hm (by simp at hy;subst hy;simp only [←e];exact hx)⟩
 ·intro k hk
  have:k=n:=by simpa [A5e,A8o,Win.s_kids,Win.s_ver]using hk
  subst this
  exact A8n _ c1 (fun e=>hso ((show(A5e w k (if a=0 then 2 else 1) (t.last+1)).sort=_ from rfl).symm.trans (e.symm.trans h0))) rfl
 ·have:=congrArg List.length ck
  simp at this;lia
 ·rw [hlast];exact h t' q1 q2
end
section
variable {Q:AV→St→Prop}
noncomputable def Tree.buf(t:Tree)(n:Int):Int:=((t.get n).map (·.buf)).getD 0
theorem C0a(G:PG S){sh:Sh}{b:Int}(hS:t.stg=7)(hr:t.root=sh.num)(hR:sh.Rep t)(hN:sh.all.length≤1000)(hl: ∀n∈sh.leaves,t.Has n)(h:Q (.lst ((sh.leaves.filter fun n=>t.buf n == b).map .int)) (St.mk (some t) dk nw rl tb fid nam loc tmp cfid cnm cel glb)):WC S (d+3) r env 331 [.ref .tree,.int b] (St.mk (some t) dk nw rl tb fid nam loc tmp cfid cnm cel glb) Q X:=by
 refine B7r G fun L=>?_
 have h5:=Tree.s5 hS
 refine A0h ?_
 intro K9
 refine A0u (A9f (cl:= [("tree",L+1),("buffer",L+2)]) (g:= []) (by with_unfolding_all rfl) rfl (by decide) (fun _=>rfl) (A2x G List.mem_cons_self rfl rfl (A8k .head (A3a G hS hr hR hN (A6t (cnm':= ["tree","buffer"]) (cel':= [some (.ref .tree),some (.int b)]) 2 (fun n=>t.buf n == b) .int (Nat.le_trans (Sh.leaves_le sh) (by exact Nat.le_trans hN (by decide))) rfl rfl ⟨by with_unfolding_all rfl,by decide,rfl,by decide,rfl,fun C=>⟨rfl,rfl,rfl,B2k ⟨by kernel_rfl,by rfl⟩,D1k ⟨by kernel_rfl,by rfl⟩ ⟨by kernel_rfl,by rfl⟩,C3r,by decide⟩,D1k (by kernel_rfl) (by kernel_rfl)⟩ ?_ ?_ ?_)))))
 ·intro C n hn
  refine A0i (hl n hn) fun w g1=>B6m (A3k rfl (A3q rfl (A9m .head .head (by assumption) (by assumption) rfl (A6r rfl (by assumption) (A8v (ix 1 rfl rfl) (eqb ?_))))))
  exact⟨rfl,by simp [Tree.buf,g1]⟩
 ·intro C n hn _
  refine B2t (A0d .head ?_)
  exact⟨rfl,rfl⟩
 ·refine A0m (B3d ?_)
  exact h
noncomputable def Tree.ded(t:Tree)(n:Int):Bool:=((t.get n).map (·.ded)).getD true
noncomputable def A5a(t:Tree)(l:List Int):List Int:=l.filter fun n=> !t.ded n && n != t.sel
theorem C8t(G:PG S){sh:Sh}(hS:t.stg=7)(hr:t.root=sh.num)(hR:sh.Rep t)(hN:sh.all.length≤1000)(hl: ∀n∈sh.leaves,t.Has n)(h:Q (.lst ((A5a t sh.leaves).map .int)) (St.mk (some t) dk nw rl tb fid nam loc tmp cfid cnm cel glb)):WC S (d+3) r env 361 [.ref .tree] (St.mk (some t) dk nw rl tb fid nam loc tmp cfid cnm cel glb) Q X:=by
 refine C5u G fun L=>?_
 have h5:=Tree.s5 hS
 refine A0h ?_
 intro K9
 refine A0u (A9f (cl:= [("tree",L+1)]) (g:= []) (by with_unfolding_all rfl) rfl (by decide) (fun _=>rfl) (A2x G List.mem_cons_self rfl rfl (A8k .head (A3a G hS hr hR hN (A6t (cnm':= ["tree"]) (cel':= [some (.ref .tree)]) 1 (fun n=> !t.ded n && n != t.sel) .int (Nat.le_trans (Sh.leaves_le sh) (by exact Nat.le_trans hN (by decide))) rfl rfl ⟨by with_unfolding_all rfl,by decide,rfl,by decide,rfl,fun C=>⟨rfl,rfl,rfl,B2k ⟨by kernel_rfl,by rfl⟩,B2k ⟨by kernel_rfl,by rfl⟩,C3r,by decide⟩,B2k (by kernel_rfl)⟩ ?_ ?_ ?_)))))
 ·intro C n hn
  refine A0i (hl n hn) fun w g1=>B6m (A7l (C9s (A7k rfl (A3q rfl (A9m .head .head (by assumption) (by assumption) rfl (A1m rfl (by assumption) (isb (⟨fun hb=>?_,fun hb=>?_⟩))))))))
  ·refine A7l (A6e rfl .head (B6t .head (A1c rfl (by assumption) (neb (⟨fun hb2=>?_,fun hb2=>?_⟩)))))
   ·refine A6m ?_
    exact⟨rfl,by simp [Tree.ded,g1]at hb hb2 ⊢;trivial⟩
   ·exact ⟨rfl,by simp [Tree.ded,g1]at hb hb2 ⊢;simp [hb,hb2]⟩
  ·exact ⟨rfl,by simp [Tree.ded,g1]at hb ⊢;simp [hb]⟩
 ·intro C n hn _
  refine B2t (A0d .head ?_)
  exact⟨rfl,rfl⟩
 ·refine A0m (B3d ?_)
  exact h
noncomputable abbrev E4:Type:=Int×Int×Int×Int
noncomputable def C8l(q:E4):AV:= .tup [.int q.1,.int q.2.1,.int q.2.2.1,.int q.2.2.2]
noncomputable def D5o:AV→Option E4
 | .tup [.int a,.int b,.int c,.int e]=>some (a,b,c,e)
 |_=>none
theorem B4t(G:PG S){l:List E4}{b:Int}(hl:l.length≤1000)(h:Q (.lst ((l.filter fun q=>q.1 != b).map C8l)) (St.mk (tr) dk nw rl tb fid nam loc tmp cfid cnm cel glb)):WC S (d+1) r env 336 [.lst (l.map C8l),.int b] (St.mk (tr) dk nw rl tb fid nam loc tmp cfid cnm cel glb) Q X:=by
 refine C3e G fun L=>A0h ?_
 intro K9
 refine A0u (A9f (cl:= [("buffer",L+1)]) (g:= []) (by with_unfolding_all rfl) rfl (by decide) (fun _=>rfl) (A0d .head (B8b (enc:=C8l) (cnm':= ["buffer"]) (cel':= [some (.int b)]) D5o (fun _=>rfl) 1 (fun q=>q.1 != b) C8l (by exact Nat.le_trans hl (by decide)) rfl rfl ⟨by with_unfolding_all rfl,by decide,rfl,by decide,rfl,fun C=>⟨rfl,rfl,rfl,B2k ⟨by kernel_rfl,by rfl⟩,B2k ⟨by kernel_rfl,by rfl⟩,C3r,by decide⟩,B2k (by kernel_rfl)⟩ ?_ ?_ ?_)))
 ·intro C n hn
  refine B6m ?_
  unfold C8l
  refine A3k rfl (A5i .head (B7i (by decide) (by decide) rfl (fun _ _=>rfl) (A8v .head (neb ?_))))
  exact⟨rfl,rfl⟩
 ·intro C n hn _
  refine B2t (A0d .head ?_)
  exact⟨rfl,rfl⟩
 ·refine A0m (B3d ?_)
  exact h
end
section
variable {Q:AV→St→Prop}
noncomputable def C4l(w:Win)(b:Int):Win:=((w.s_ear (.lst [w.shownAV])).s_lat (.lst [])).show4 b 1 1 0
theorem B1c(G:PG S){b:Int}(hS:t.stg=7)(h2:t.get n=some w)(h0:w.sort=0)(hd:w.ded=false)(he:w.ear= .lst [])(hla:w.lat= .lst [])(h:Q .none (St.mk (some (if w.buf=b then t else t.put n (C4l w b))) dk nw rl tb fid nam loc tmp cfid cnm cel glb)):WC S (d+3) r env 342 [.ref .tree,.int n,.int b] (St.mk (some t) dk nw rl tb fid nam loc tmp cfid cnm cel glb) Q X:=by
 refine B5p G fun L=>?_
 have h5:=Tree.s5 hS
 refine A6g rfl ?_
 intro K9
 refine A6y rfl .head (A5c G (by assumption) rfl rfl (A2s (ix 1 rfl rfl) (C6b G h5 h2 h0 (A0k (.tail (.tail (.tail (.tail .head)))) (A4i ?_)))))
 intro K9
 refine A6x rfl (ix 4 rfl rfl) (A6r rfl (by assumption) (A8v .head (eqb (⟨fun hb=>?_,fun hb=>?_⟩))))
 ·refine A0h ?_
  intro K9
  refine C3z (A0m (A0m (B0v ?_)))
  rw [if_pos (by simpa using hb)]at h
  exact h
 ·have hb:w.buf≠b:=by simpa using hb
  rw [if_neg hb]at h
  refine A0x (A0a (A4i ?_))
  intro K9
  refine A7k rfl (A2c (ix 4 rfl rfl) (A1m rfl (by assumption) (isb (⟨fun hb=>by rw [hd]at hb;exact k4 hb,fun _=>?_⟩))))
  refine A0x (A6l ?_)
  intro K9
  refine A4j (cl:= [("buffer",L+1)]) (g:= []) (by with_unfolding_all rfl) (by with_unfolding_all rfl) rfl (by decide) (fun _=>rfl) (A2c (ix 4 rfl rfl) (B1f h2 (by rw [he];exact fun h=>by contradiction) ?_))
  simp only [he]
  refine B8b (l:=([]:List E4)) (enc:=C8l) (cnm':= ["buffer"]) (cel':= [some (.int b)]) D5o (fun _=>rfl) 1 (fun q=>q.1 == b) C8l (Nat.zero_le _) rfl rfl ⟨by with_unfolding_all rfl,by decide,rfl,by decide,rfl,fun C=>⟨rfl,rfl,rfl,B2k ⟨by kernel_rfl,by rfl⟩,B2k ⟨by kernel_rfl,by rfl⟩,C3r,by decide⟩,B2k (by kernel_rfl)⟩ (fun C n hn=>nomatch hn) (fun C n hn=>nomatch hn) ?_
  simp only [List.filter_nil,List.map_nil]
  refine A0k (.tail (.tail (.tail (.tail (.tail .head))))) (A6l ?_)
  intro K9
  refine A4k rfl (A0t (B3s G (mi 1 rfl) rfl rfl (A0b rfl (A2c (ix 4 rfl rfl) (B1f h2 (by rw [he];exact fun h=>by contradiction) ?_)))))
  simp only [he]
  refine A0b rfl (A2c (ix 4 rfl rfl) (A6r rfl (by assumption) (A0g (B4t (l:=([]:List E4)) G (Nat.zero_le _) ?_))))
  simp only [List.filter_nil,List.map_nil]
  refine A5j (A0b rfl (A6y rfl (ix 4 rfl rfl) (A3r G (by assumption) (B4v G h2 (A0g (⟨Nat.le_of_ble_eq_true rfl,?_⟩))))))
  refine D2d A1g A1g (Nat.zero_le _) (Nat.le_of_ble_eq_true rfl) ?_
  simp only [List.nil_append]
  refine A0d (ix 4 rfl rfl) (B1e (by assumption) (A0a (A8g rfl ?_)))
  intro K9
  refine B3s G (mi 1 rfl) rfl rfl (A0b rfl (A2c (ix 4 rfl rfl) ?_))
  generalize hw1:w.s_ear (.lst [w.shownAV])=w1
  have e1:w1.ear= .lst ([(w.buf,w.start,w.point,w.hscroll)].map C8l):=by refine(congrArg _ (hw1).symm).trans ?_;rfl
  have l1:w1.lat= .lst []:=by refine(congrArg _ (hw1).symm).trans ?_;exact hla
  have g1:(t.put n w1).get n=some w1:=Tree.get_put_self h2 _
  refine B1f g1 (by rw [e1];exact fun h=>by contradiction) ?_
  simp only [e1]
  refine A8k .head (B4t (l:= [(w.buf,w.start,w.point,w.hscroll)]) G (Nat.le_of_ble_eq_true rfl) ?_)
  have e2:([(w.buf,w.start,w.point,w.hscroll)]:List E4).filter (fun q=>q.1 != b)= [(w.buf,w.start,w.point,w.hscroll)]:=by simp [hb]
  simp only [e2]
  refine A0d (ix 4 rfl rfl) (B1e (by assumption) (A8g rfl ?_))
  intro K9
  refine B3s G (mi 1 rfl) rfl rfl (A0b rfl (A2c (ix 4 rfl rfl) (W1.sb (by rw [A6p]) ?_)))
  have ew:w1.s_ear (.lst (List.map C8l [(w.buf,w.start,w.point,w.hscroll)]))=w1:=by refine(congrArg _ (e1).symm).trans ?_;rfl
  rw [ew]
  refine D1c g1 (by rw [l1];exact fun h=>by contradiction) ?_
  simp only [l1]
  refine A8k .head (B4t (l:=([]:List E4)) G (Nat.zero_le _) ?_)
  simp only [List.filter_nil,List.map_nil]
  refine A0d (ix 4 rfl rfl) (D1a (by assumption) (A0h ?_))
  intro K9
  refine A2g rfl rfl (A6y rfl (ix 4 rfl rfl) (A5z G (Tree.get_put_self (by assumption) _) rfl rfl (A0b rfl (A6k (A6e rfl (ix 5 rfl rfl) (A5j (A0g (⟨Nat.le_of_ble_eq_true rfl,?_⟩))))))))
  refine A3t A1g (isb (⟨fun hb=>by exact k4 hb,fun _=>?_⟩))
  refine A0z (C2i .head (A4y (ix 2 rfl rfl) (A4y (ix 3 rfl rfl) (A7h (⟨Nat.le_of_ble_eq_true rfl,?_⟩)))))
  refine A0g ?_
  rw [A6p]
  have g2:(t.put n (w1.s_lat (.lst []))).get n=some (w1.s_lat (.lst [])):=Tree.get_put_self h2 _
  refine C2e G g2 ?_
  rw [A6p]
  refine⟨trivial,?_⟩
  refine A5u (A1z ?_)
  have ew:(w1.s_lat (.lst [])).show4 b 1 1 0=C4l w b:=by rw [←hw1];rfl
  rw [ew]
  exact h
end
section
variable {Q:AV→St→Prop}
theorem B8i(G:PG S)(E:EK S){a c:Int}(h:Q (.rul a c) (St.mk tr dk nw (none) tb fid nam loc tmp cfid cnm cel glb)):WC S (d+2) r env S.CR [.int a,.int c] (St.mk tr dk nw (none) tb fid nam loc tmp cfid cnm cel glb) Q X:=by
 refine D1p (σ:=(St.mk tr dk nw (none) tb fid nam loc tmp cfid cnm cel glb)) G.k_Rules.2.2.1 G.k_Rules.2.2.2.1 G.k_Rules.2.2.2.2 rfl fun f=>B7y G fun L=>A8g rfl ?_
 intro K9
 refine A0d (ix 1 rfl rfl) (A0d .head (D3h (by assumption) (A8g rfl ?_)))
 intro K9
 refine A0d (ix 2 rfl rfl) (A0d .head (C6d (by assumption) (A0x (A1z ?_))))
 exact A4x rfl rfl h
theorem B8e(G:PG S)(h: ∀L,WC S d false (A3o.env L) 281 [.ref .tree,.int n,.none,.int 1,.bool false] (St.mk tr dk nw rl tb L ["tree","number","size"] [some (.ref .tree),some (.int n),some .none] [] L [] [] ["split","HEIGHT"]) (fun a σ''=> ∃m,a= .int m∧Q (.int m) (St.mk σ''.tr σ''.dk σ''.nw σ''.rl σ''.tb fid nam loc tmp cfid cnm cel glb)) (fun _=>False)):
  WC S (d+1) r env 296 [.ref .tree,.int n] (St.mk (tr) dk nw rl tb fid nam loc tmp cfid cnm cel glb) Q X:=by
 refine B5o G fun L=>A0i G.c_HEIGHT fun t1 e1=>A0h ?_
 intro K9
 refine A0u (C0t G List.mem_cons_self rfl rfl (A4y .head (A4y (ix 1 rfl rfl) (A4y (ix 2 rfl rfl) (A0b rfl (A3p (mi 1 rfl) (by assumption) (A0b rfl (C1q (A0g (WC.mono (h L) (fun a σ'' q=>?_) fun _ h=>h))))))))))
 obtain ⟨m,rfl,q⟩:=q
 refine tri ?_
 exact q
theorem B8d(G:PG S)(h: ∀L,WC S d false (A3n.env L) 281 [.ref .tree,.int n,.none,.int 0,.bool false] (St.mk tr dk nw rl tb L ["tree","number","size"] [some (.ref .tree),some (.int n),some .none] [] L [] [] ["split","WIDTH"]) (fun a σ''=> ∃m,a= .int m∧Q (.int m) (St.mk σ''.tr σ''.dk σ''.nw σ''.rl σ''.tb fid nam loc tmp cfid cnm cel glb)) (fun _=>False)):
  WC S (d+1) r env 304 [.ref .tree,.int n] (St.mk (tr) dk nw rl tb fid nam loc tmp cfid cnm cel glb) Q X:=by
 refine B5m G fun L=>A0i G.c_WIDTH fun t1 e1=>A0h ?_
 intro K9
 refine A0u (C0t G List.mem_cons_self rfl rfl (A4y .head (A4y (ix 1 rfl rfl) (A4y (ix 2 rfl rfl) (A0b rfl (A3p (mi 1 rfl) (by assumption) (A0b rfl (C1q (A0g (WC.mono (h L) (fun a σ'' q=>?_) fun _ h=>h))))))))))
 obtain ⟨m,rfl,q⟩:=q
 refine tri ?_
 exact q
noncomputable def B0q(w:Win)(rr cc:Int):Str:=if w.ded=true then Str.ofString "" else if(if 4>rr then 4 else rr)≤w.height then Str.ofString "below" else if(if 6>cc then 6 else cc)≤w.width then Str.ofString "right" else Str.ofString ""
theorem A7g(G:PG S){rr cc:Int}(h2:t.get n=some w)(h:Q (.str (B0q w rr cc)) (St.mk (some t) dk nw rl tb fid nam loc tmp cfid cnm cel glb)):WC S (d+1) r env 388 [.ref (.win n),.int rr,.int cc] (St.mk (some t) dk nw rl tb fid nam loc tmp cfid cnm cel glb) Q X:=by
 refine B7w G fun L=>?_
 unfold B0q at h
 refine A4i ?_
 intro K9
 refine A7k rfl (A2c .head (A1m rfl (by assumption) (isb (⟨fun hb=>?_,fun hb=>?_⟩))))
 ·rw [if_pos hb]at h
  refine B1p (A5h (A0m (B3c ?_)))
  exact h
 ·rw [if_neg (by simp [hb])]at h
  refine A0x (A0a (A4i ?_))
  intro K9
  refine A6x rfl .head (A3d rfl (by assumption) (C4r G List.mem_cons_self rfl rfl (A4y (ix 1 rfl rfl) (A7h (C2g (D3p (isb (⟨fun hb=>?_,fun hb=>?_⟩))))))))
  ·rw [if_pos (of_decide_eq_true hb)]at h
   refine B1p (A5h (A0m (B3c ?_)))
   exact h
  ·rw [if_neg (of_decide_eq_false hb)]at h
   refine A0x (A6l ?_)
   intro K9
   refine A0u (A6k (A6x rfl .head (A4p rfl (by assumption) (C4r G List.mem_cons_self rfl rfl (A4y (ix 2 rfl rfl) (A7h (C2g (D3p (isb (⟨fun hb=>?_,fun hb=>?_⟩))))))))))
   ·rw [if_pos (of_decide_eq_true hb)]at h
    refine A5h (A0m (B3c ?_))
    exact h
   ·rw [if_neg (of_decide_eq_false hb)]at h
    refine A5h (A0m (B3c ?_))
    exact h
end
structure SameG (w w':Win):Prop where
 sort:w'.sort=w.sort
 parent:w'.parent=w.parent
 kids:w'.kids=w.kids
 width:w'.width=w.width
 height:w'.height=w.height
theorem SameG.refl(w:Win):SameG w w:=⟨rfl,rfl,rfl,rfl,rfl⟩
theorem SameG.trans{a b c:Win}(h:SameG a b)(h':SameG b c):SameG a c:=⟨h'.1.trans h.1,h'.2.trans h.2,h'.3.trans h.3,h'.4.trans h.4,h'.5.trans h.5⟩
mutual
noncomputable def Sh.Geo(t:Tree)(par ps:Int):Sh→Int→Int→Prop
 | .mk n ks,wd,ht=> ∃w,t.get n=some w∧w.parent=par∧w.kids=ks.map Sh.num∧w.width=wd∧w.height=ht∧w.sort≠ps∧(ks= []→w.sort=0∧t.lw≤wd∧t.lh≤ht)∧(ks≠ []→(w.sort=1∨w.sort=2)∧2≤ks.length∧Sh.GeoL t n w.sort ks wd ht)
noncomputable def Sh.GeoL(t:Tree)(par ps:Int):List Sh→Int→Int→Prop
 | [],wd,ht=>if ps=2 then wd=0 else ht=0
 |k::ks,wd,ht=> ∃s,if ps=2 then Sh.Geo t par ps k s ht∧Sh.GeoL t par ps ks (wd-s) ht else Sh.Geo t par ps k wd s∧Sh.GeoL t par ps ks wd (ht-s)
end
theorem Sh.GeoL.e0{t:Tree}{par ps:Int}{wd ht}:Sh.GeoL t par ps [] wd ht=(if ps=2 then wd=0 else ht=0):=rfl
theorem Sh.GeoL.e1{t:Tree}{par ps:Int}{k ks wd ht}:Sh.GeoL t par ps (k::ks) wd ht=(∃s,if ps=2 then Sh.Geo t par ps k s ht∧Sh.GeoL t par ps ks (wd-s) ht else Sh.Geo t par ps k wd s∧Sh.GeoL t par ps ks wd (ht-s)):=rfl
theorem Sh.Geo.e0{t:Tree}{par ps:Int}{n ks wd ht}:Sh.Geo t par ps (.mk n ks) wd ht=(∃w,t.get n=some w∧w.parent=par∧w.kids=ks.map Sh.num∧w.width=wd∧w.height=ht∧w.sort≠ps∧(ks= []→w.sort=0∧t.lw≤wd∧t.lh≤ht)∧(ks≠ []→(w.sort=1∨w.sort=2)∧2≤ks.length∧Sh.GeoL t n w.sort ks wd ht)):=rfl
mutual
theorem Geo.congr{t t':Tree}(hl:t'.lw=t.lw)(hl2:t'.lh=t.lh): ∀(s:Sh) (par ps wd ht:Int),(∀k∈s.all,∀w,t.get k=some w→ ∃w',t'.get k=some w'∧SameG w w')→s.Geo t par ps wd ht→s.Geo t' par ps wd ht
 | .mk n ks,par,ps,wd,ht,hc,h=>by
  simp only [Sh.Geo.e0]at h ⊢
  refine A5l h fun w g h1 h2 h3 h4 y9a=>?_
  try clear h
  refine A1a y9a fun h5 h6 h7=>A0e (hc n (.head _) w g) fun w' g' y9a=>?_
  obtain ⟨e1,e2,e3,e4,e5⟩:=y9a
  refine B0f w' g' (e2.trans h1) (e3.trans h2) (e4.trans h3) (e5.trans h4) (A4x (by rw [e1];exact h5) (fun e=>by simp only [e1,hl,hl2];exact h6 e) (fun e=>?_))
  rw [e1]
  exact A4x ((h7 e).1) ((h7 e).2.1) (GeoL.congr hl hl2 ks n w.sort wd ht (fun k hk=>hc k (by simp [Sh.all.e0,hk])) (h7 e).2.2)
theorem GeoL.congr{t t':Tree}(hl:t'.lw=t.lw)(hl2:t'.lh=t.lh): ∀(ks:List Sh) (par ps wd ht:Int),(∀k∈Sh.allL ks,∀w,t.get k=some w→ ∃w',t'.get k=some w'∧SameG w w')→Sh.GeoL t par ps ks wd ht→Sh.GeoL t' par ps ks wd ht
 | [],par,ps,wd,ht,_,h=>by simpa only [Sh.GeoL.e0,Sh.GeoL.e1]using h
 |k::ks,par,ps,wd,ht,hc,h=>by
  simp only [Sh.GeoL.e0,Sh.GeoL.e1]at h ⊢
  refine A0i h fun s h=>⟨s,?_⟩
  have c1:=fun a b=>Geo.congr hl hl2 k par ps a b (fun j hj=>hc j (by simp [Sh.allL.e0,Sh.allL.e1,hj]))
  have c2:=fun a b=>GeoL.congr hl hl2 ks par ps a b (fun j hj=>hc j (by simp [Sh.allL.e0,Sh.allL.e1,hj]))
  split at h
  ·refine (if_pos ‹_›).mpr ?_;exact⟨c1 _ _ h.1,c2 _ _ h.2⟩
  ·refine (if_neg ‹_›).mpr ?_;exact⟨c1 _ _ h.1,c2 _ _ h.2⟩
end
mutual
theorem Geo.least{t:Tree}(h0:0≤t.lw)(h0':0≤t.lh): ∀(s:Sh) (par ps wd ht:Int),s.Geo t par ps wd ht→t.lw≤wd∧t.lh≤ht
 | .mk n ks,par,ps,wd,ht,h=>by
  simp only [Sh.Geo.e0]at h
  refine A5l h fun w g h1 h2 h3 h4 y9a=>?_
  try clear h
  refine A1a y9a fun h5 h6 h7=>?_
  cases ks with
  |nil=>exact(h6 rfl).2
  |cons k ks=>
   refine A1a (h7 (List.cons_ne_nil _ _)) fun q1 q2 q3=>?_
   simp only [Sh.GeoL.e0,Sh.GeoL.e1]at q3
   refine A0i q3 fun s q3=>?_
   split at q3
   ·have a1:=Geo.least h0 h0' k _ _ _ _ q3.1
    have a2:=GeoL.nonneg h0 h0' ks n w.sort _ _ q3.2
    replace a2:=(if_pos ‹_›).mp a2
    exact⟨by lia,a1.2⟩
   ·have a1:=Geo.least h0 h0' k _ _ _ _ q3.1
    have a2:=GeoL.nonneg h0 h0' ks n w.sort _ _ q3.2
    replace a2:=(if_neg ‹_›).mp a2
    exact⟨a1.1,by lia⟩
theorem GeoL.nonneg{t:Tree}(h0:0≤t.lw)(h0':0≤t.lh): ∀(ks:List Sh) (par ps wd ht:Int),Sh.GeoL t par ps ks wd ht→(if ps=2 then 0≤wd else 0≤ht)
 | [],par,ps,wd,ht,h=>by simp only [Sh.GeoL.e0,Sh.GeoL.e1]at h;split at h <;> simp_all
 |k::ks,par,ps,wd,ht,h=>by
  simp only [Sh.GeoL.e0,Sh.GeoL.e1]at h
  refine A0i h fun s h=>?_
  split at h
  ·have a1:=Geo.least h0 h0' k _ _ _ _ h.1
   have a2:=GeoL.nonneg h0 h0' ks par ps _ _ h.2
   rw [if_pos ‹_›]at a2 ⊢;lia
  ·have a1:=Geo.least h0 h0' k _ _ _ _ h.1
   have a2:=GeoL.nonneg h0 h0' ks par ps _ _ h.2
   rw [if_neg ‹_›]at a2 ⊢;lia
end
mutual
theorem Geo.rep{t:Tree}: ∀(s:Sh) (par ps wd ht:Int),s.Geo t par ps wd ht→s.Rep t
 | .mk n ks,par,ps,wd,ht,h=>by
  simp only [Sh.Geo.e0]at h
  simp only [Sh.Rep.e0]
  refine A5l h fun w g h1 h2 h3 h4 y9a=>?_
  try clear h
  refine A1a y9a fun h5 h6 h7=>?_
  by_cases e:ks= []
  ·subst e;exact⟨⟨w,g,h2,fun _=>rfl,fun _=>(h6 rfl).1⟩,trivial⟩
  ·exact ⟨⟨w,g,h2,fun q=>by have:=(h7 e).1;omega,fun q=>absurd q e⟩,GeoL.rep ks _ _ _ _ (h7 e).2.2⟩
theorem GeoL.rep{t:Tree}: ∀(ks:List Sh) (par ps wd ht:Int),Sh.GeoL t par ps ks wd ht→Sh.RepL t ks
 | [],par,ps,wd,ht,_=>trivial
 |k::ks,par,ps,wd,ht,h=>by
  simp only [Sh.GeoL.e0,Sh.GeoL.e1]at h
  refine A0i h fun s h=>?_
  split at h
  ·exact ⟨Geo.rep k _ _ _ _ h.1,GeoL.rep ks _ _ _ _ h.2⟩
  ·exact ⟨Geo.rep k _ _ _ _ h.1,GeoL.rep ks _ _ _ _ h.2⟩
end
inductive Sub:Sh→Sh→Prop
 |refl (s:Sh):Sub s s
 |step {s k:Sh} {n:Int} {ks:List Sh}:k∈ks→Sub s k→Sub s (.mk n ks)
theorem A9k{n:Int}: ∀{ks:List Sh},n∈Sh.allL ks↔ ∃k∈ks,n∈k.all
 | []=>by simp [Sh.allL.e0,Sh.allL.e1]
 |k::ks=>by simp [Sh.allL.e0,Sh.allL.e1,List.mem_append,A9k (ks:=ks),List.mem_cons,exists_eq_or_imp]
theorem B4b{n:Int}: ∀{ks:List Sh},n∈Sh.leavesL ks↔ ∃k∈ks,n∈k.leaves
 | []=>by simp [Sh.leavesL.e0,Sh.leavesL.e1]
 |k::ks=>by simp [Sh.leavesL.e0,Sh.leavesL.e1,List.mem_append,B4b (ks:=ks),List.mem_cons,exists_eq_or_imp]
theorem Sub.all{s sh:Sh}(h:Sub s sh): ∀n∈s.all,n∈sh.all:=by
 induction h with
 |refl=>exact fun _ h=>h
 |step hk _ ih=>intro n hn;simp [Sh.all.e0,List.mem_cons];exact .inr (A9k.mpr ⟨_,hk,ih n hn⟩)
mutual
theorem A6f{n:Int}: ∀(s:Sh),n∈s.all→ ∃ks,Sub (.mk n ks) s
 | .mk m ks,h=>by
  simp [Sh.all.e0,List.mem_cons]at h
  rcases h with rfl|h
  ·exact ⟨ks,.refl _⟩
  ·refine A0e (B3m ks h) fun k hk y9a=>A0i y9a fun ks' hs=>?_
   exact⟨ks',.step hk hs⟩
theorem B3m{n:Int}: ∀(ks:List Sh),n∈Sh.allL ks→ ∃k∈ks,∃ks',Sub (.mk n ks') k
 | [],h=>by exact k3 h
 |k::ks,h=>by
  simp [Sh.allL.e0,Sh.allL.e1,List.mem_append]at h
  rcases h with h|h
  ·obtain ⟨ks',hs⟩:=A6f k h;exact⟨k,.head _,ks',hs⟩
  ·obtain ⟨k',hk,r⟩:=B3m ks h;exact⟨k',.tail _ hk,r⟩
end
mutual
theorem A6n{n:Int}: ∀(s:Sh),n∈s.leaves→Sub (.mk n []) s
 | .mk m [],h=>by
  rw [Sh.leaves.e0,List.mem_singleton]at h;subst h;exact .refl _
 | .mk m (k::ks),h=>by
  simp [Sh.leaves.e0,Sh.leaves.e1,List.mem_append]at h
  rcases h with h|h
  ·exact .step (.head _) (A6n k h)
  ·obtain ⟨k',hk,hs⟩:=B2d ks h;exact .step (.tail _ hk) hs
theorem B2d{n:Int}: ∀(ks:List Sh),n∈Sh.leavesL ks→ ∃k∈ks,Sub (.mk n []) k
 | [],h=>by exact k3 h
 |k::ks,h=>by
  simp [Sh.leavesL.e0,Sh.leavesL.e1,List.mem_append]at h
  rcases h with h|h
  ·exact A1f k (.head _) (A6n k h)
  ·obtain ⟨k',hk,r⟩:=B2d ks h;exact⟨k',.tail _ hk,r⟩
end
theorem Sub.leaf{n:Int}{sh:Sh}(h:Sub (.mk n []) sh):n∈sh.leaves:=by
 generalize hs:Sh.mk n []=s at h
 induction h with
 |refl=>subst hs;exact .head _
 | @step k m ks hk _ ih=>rw [Sh.leaves_cons (List.ne_nil_of_mem hk)];exact B4b.mpr ⟨_,hk,ih⟩
theorem A5f{n:Int}{sh:Sh}(h:n∈sh.leaves):n∈sh.all:=(A6n sh h).all n (.head _)
theorem GeoL.mem{t:Tree}(h0:0≤t.lw)(h0':0≤t.lh){k:Sh}: ∀{ks:List Sh} {par ps wd ht:Int},Sh.GeoL t par ps ks wd ht→k∈ks→ ∃wd' ht',k.Geo t par ps wd' ht'∧wd'≤wd∧ht'≤ht
 | [],par,ps,wd,ht,_,hk=>by exact k3 hk
 |k'::ks,par,ps,wd,ht,h,hk=>by
  simp only [Sh.GeoL.e0,Sh.GeoL.e1]at h
  refine A0i h fun s h=>?_
  split at h
  ·have a1:=Geo.least h0 h0' k' _ _ _ _ h.1
   have a2:=GeoL.nonneg h0 h0' ks par ps _ _ h.2
   replace a2:=(if_pos ‹_›).mp a2
   rcases List.mem_cons.mp hk with rfl|hk
   ·exact B2o _ _ h.1 (Int.le_of_sub_nonneg a2) (Int.le_refl _)
   ·refine A1x (GeoL.mem h0 h0' h.2 hk) fun wd' ht' g e1 e2=>?_
    exact B2o wd' ht' g (by lia) e2
  ·have a1:=Geo.least h0 h0' k' _ _ _ _ h.1
   have a2:=GeoL.nonneg h0 h0' ks par ps _ _ h.2
   replace a2:=(if_neg ‹_›).mp a2
   rcases List.mem_cons.mp hk with rfl|hk
   ·exact B2o _ _ h.1 (Int.le_refl _) (Int.le_of_sub_nonneg a2)
   ·refine A1x (GeoL.mem h0 h0' h.2 hk) fun wd' ht' g e1 e2=>?_
    exact B2o wd' ht' g e1 (by lia)
theorem Geo.sub{t:Tree}(h0:0≤t.lw)(h0':0≤t.lh){s sh:Sh}(hs:Sub s sh): ∀{par ps wd ht:Int},sh.Geo t par ps wd ht→ ∃par' ps' wd' ht',s.Geo t par' ps' wd' ht'∧wd'≤wd∧ht'≤ht:=by
 induction hs with
 |refl=>exact fun h=>⟨_,_,_,_,h,Int.le_refl _,Int.le_refl _⟩
 | @step k n ks hk _ ih=>
  intro par ps wd ht h
  simp only [Sh.Geo.e0]at h
  refine A5l h fun w g h1 h2 h3 h4 y9a=>?_
  try clear h
  refine A1a y9a fun h5 h6 h7=>A1x (GeoL.mem h0 h0' (h7 (List.ne_nil_of_mem hk)).2.2 hk) fun wd' ht' g' e1 e2=>B4p (ih g') fun par' ps' wd'' ht'' g'' e3 e4=>?_
  exact C1f par' ps' wd'' ht'' g'' (Int.le_trans e3 e1) (Int.le_trans e4 e2)
mutual
noncomputable def Sh.upd(q:Int)(F:Sh→Sh):Sh→Sh
 | .mk n ks=>if n=q then F (.mk n ks)else .mk n (Sh.updL q F ks)
noncomputable def Sh.updL(q:Int)(F:Sh→Sh):List Sh→List Sh
 | []=> []
 |k::ks=>Sh.upd q F k::Sh.updL q F ks
end
theorem Sh.updL.e0{q:Int}{F:Sh→Sh}:Sh.updL q F []=([]):=rfl
theorem Sh.updL.e1{q:Int}{F:Sh→Sh}{k ks}:Sh.updL q F (k::ks)=(Sh.upd q F k::Sh.updL q F ks):=rfl
theorem Sh.upd.e0{q:Int}{F:Sh→Sh}{n ks}:Sh.upd q F (.mk n ks)=(if n=q then F (.mk n ks)else .mk n (Sh.updL q F ks)):=rfl
mutual
noncomputable def Sh.outer(q:Int):Sh→List Int
 | .mk n ks=>if n=q then []else n::Sh.outerL q ks
noncomputable def Sh.outerL(q:Int):List Sh→List Int
 | []=> []
 |k::ks=>Sh.outer q k++Sh.outerL q ks
end
theorem Sh.outerL.e0{q:Int}:Sh.outerL q []=([]):=rfl
theorem Sh.outerL.e1{q:Int}{k ks}:Sh.outerL q (k::ks)=(Sh.outer q k++Sh.outerL q ks):=rfl
theorem Sh.outer.e0{q:Int}{n ks}:Sh.outer q (.mk n ks)=(if n=q then []else n::Sh.outerL q ks):=rfl
theorem A9x{q:Int}{F:Sh→Sh}: ∀ks:List Sh,(Sh.updL q F ks).length=ks.length
 | []=>rfl
 |k::ks=>by simp only [Sh.updL.e0,Sh.updL.e1,List.length_cons,A9x ks]
theorem C0l{q q':Int}{F:Sh→Sh}(hF: ∀ks,(F (.mk q ks)).num=q'): ∀s:Sh,(s.upd q F).num=if s.num=q then q' else s.num
 | .mk n ks=>by
  simp only [Sh.upd.e0]
  by_cases e:n=q
  ·refine (congrArg _ (if_pos e)).trans ?_;subst e;rw [hF];simp [Sh.num]
  ·refine (congrArg _ (if_neg e)).trans ?_;simp [Sh.num,e]
theorem B8z{q q':Int}{F:Sh→Sh}(hF: ∀ks,(F (.mk q ks)).num=q'): ∀ks:List Sh,(Sh.updL q F ks).map Sh.num=(ks.map Sh.num).map (fun x=>if x=q then q' else x)
 | []=>rfl
 |k::ks=>by simp only [Sh.updL.e0,Sh.updL.e1,List.map_cons,C0l hF,B8z hF ks]
mutual
theorem B0n{q n:Int}: ∀s:Sh,n∈s.outer q→n∈s.all∧n≠q
 | .mk m ks,h=>by
  simp only [Sh.outer.e0]at h
  split at h
  ·exact k3 h
  ·rcases List.mem_cons.mp h with rfl|h
   ·exact ⟨by exact .head _,by assumption⟩
   ·exact ⟨by simp [Sh.all.e0,List.mem_cons];exact .inr (A9i ks h).1,(A9i ks h).2⟩
theorem A9i{q n:Int}: ∀ks:List Sh,n∈Sh.outerL q ks→n∈Sh.allL ks∧n≠q
 | [],h=>by exact k3 h
 |k::ks,h=>by
  simp [Sh.outerL.e0,Sh.outerL.e1,List.mem_append]at h
  rw [Sh.allL.e1,List.mem_append]
  rcases h with h|h
  ·exact ⟨.inl (B0n k h).1,(B0n k h).2⟩
  ·exact ⟨.inr (A9i ks h).1,(A9i ks h).2⟩
end
mutual
theorem A8s{t:Tree}{q:Int}: ∀(s:Sh) (par ps wd ht:Int),s.Geo t par ps wd ht→par≠q→ ∀k∈s.outer q,∃w,t.get k=some w∧w.parent≠q
 | .mk n ks,par,ps,wd,ht,h,hp,k,hk=>by
  simp only [Sh.Geo.e0]at h
  refine A5l h fun w g h1 h2 h3 h4 y9a=>?_
  try clear h
  refine A1a y9a fun h5 h6 h7=>?_
  simp only [Sh.outer.e0]at hk
  split at hk
  ·exact k3 hk
  ·rename_i hne
   rcases List.mem_cons.mp hk with rfl|hk
   ·exact A1f w g (by rw [h1];exact hp)
   ·have e:ks≠ []:=fun e=>by subst e;exact k3 hk
    exact A7x ks n w.sort wd ht (h7 e).2.2 hne k hk
theorem A7x{t:Tree}{q:Int}: ∀(ks:List Sh) (par ps wd ht:Int),Sh.GeoL t par ps ks wd ht→par≠q→ ∀k∈Sh.outerL q ks,∃w,t.get k=some w∧w.parent≠q
 | [],par,ps,wd,ht,h,hp,k,hk=>by exact k3 hk
 |k'::ks,par,ps,wd,ht,h,hp,k,hk=>by
  simp only [Sh.GeoL.e0,Sh.GeoL.e1]at h
  refine A0i h fun s h=>?_
  simp [Sh.outerL.e0,Sh.outerL.e1,List.mem_append]at hk
  split at h
  ·rcases hk with hk|hk
   ·exact A8s k' _ _ _ _ h.1 hp k hk
   ·exact A7x ks _ _ _ _ h.2 hp k hk
  ·rcases hk with hk|hk
   ·exact A8s k' _ _ _ _ h.1 hp k hk
   ·exact A7x ks _ _ _ _ h.2 hp k hk
end
structure SameR (q q':Int) (w w':Win):Prop where
 sort:w'.sort=w.sort
 parent:w'.parent=w.parent
 kids:w'.kids=w.kids.map (fun x=>if x=q then q' else x)
 width:w'.width=w.width
 height:w'.height=w.height
noncomputable def PS(t:Tree)(par ps:Int):Prop:=(par=0∧ps= -1)∨ ∃w,t.get par=some w∧w.sort=ps
mutual
theorem Geo.upd{t t':Tree}{q q':Int}{F:Sh→Sh}(hl:t'.lw=t.lw)(hl2:t'.lh=t.lh)(hF: ∀ks,(F (.mk q ks)).num=q')
  (hq: ∀ks par ps wd ht,PS t par ps→(Sh.mk q ks).all.Nodup→(Sh.mk q ks).Geo t par ps wd ht→(F (.mk q ks)).Geo t' par ps wd ht):
  ∀(s:Sh) (par ps wd ht:Int),PS t par ps→s.all.Nodup→(∀k∈s.outer q,∀w,t.get k=some w→ ∃w',t'.get k=some w'∧SameR q q' w w')→s.Geo t par ps wd ht→(s.upd q F).Geo t' par ps wd ht
 | .mk n ks,par,ps,wd,ht,pp,nd,ho,h=>by
  simp only [Sh.upd.e0]
  by_cases e:n=q
  ·rw [if_pos e];subst e;exact hq ks par ps wd ht pp nd h
  ·rw [if_neg e]
   simp only [Sh.Geo.e0]at h ⊢
   refine A5l h fun w g h1 h2 h3 h4 y9a=>?_
   try clear h
   refine A1a y9a fun h5 h6 h7=>?_
   have ho': ∀k∈n::Sh.outerL q ks,∀w,t.get k=some w→ ∃w',t'.get k=some w'∧SameR q q' w w':=fun k hk=>ho k (by rw [Sh.outer.e0,if_neg e];exact hk)
   refine A0e (ho' n (.head _) w g) fun w' g' y9a=>?_
   obtain ⟨e1,e2,e3,e4,e5⟩:=y9a
   have nd2:(Sh.allL ks).Nodup:=by simp [Sh.all.e0,List.nodup_cons]at nd;exact nd.2
   have en:Sh.updL q F ks= []↔ks= []:=by cases ks <;> simp [Sh.updL.e0,Sh.updL.e1]
   refine B0f w' g' (e2.trans h1) (by simp only [e3,h2,B8z hF]) (e4.trans h3) (e5.trans h4) (A4x (by rw [e1];exact h5) (fun w1=>by simp only [e1,hl,hl2];exact h6 (en.mp w1)) (fun w1=>?_))
   have h7:=h7 (fun w'=>w1 (en.mpr w'))
   rw [e1,A9x]
   exact A4x h7.1 h7.2.1 (GeoL.upd hl hl2 hF hq ks n _ wd ht (.inr ⟨w,g,rfl⟩) nd2 (fun k hk=>ho' k (.tail _ hk)) h7.2.2)
theorem GeoL.upd{t t':Tree}{q q':Int}{F:Sh→Sh}(hl:t'.lw=t.lw)(hl2:t'.lh=t.lh)(hF: ∀ks,(F (.mk q ks)).num=q')
  (hq: ∀ks par ps wd ht,PS t par ps→(Sh.mk q ks).all.Nodup→(Sh.mk q ks).Geo t par ps wd ht→(F (.mk q ks)).Geo t' par ps wd ht):
  ∀(ks:List Sh) (par ps wd ht:Int),PS t par ps→(Sh.allL ks).Nodup→(∀k∈Sh.outerL q ks,∀w,t.get k=some w→ ∃w',t'.get k=some w'∧SameR q q' w w')→Sh.GeoL t par ps ks wd ht→Sh.GeoL t' par ps (Sh.updL q F ks) wd ht
 | [],par,ps,wd,ht,pp,nd,ho,h=>by exact h
 |k::ks,par,ps,wd,ht,pp,nd,ho,h=>by
  simp only [Sh.allL.e0,Sh.allL.e1]at nd
  have nd:=List.nodup_append.mp nd
  dsimp only [Sh.GeoL.e0,Sh.GeoL.e1,Sh.updL.e0,Sh.updL.e1]at h ⊢
  refine A0i h fun s h=>⟨s,?_⟩
  have c1:=fun a b=>Geo.upd hl hl2 hF hq k par ps a b pp nd.1 (fun j hj=>ho j (by simp [Sh.outerL.e0,Sh.outerL.e1,hj]))
  have c2:=fun a b=>GeoL.upd hl hl2 hF hq ks par ps a b pp nd.2.1 (fun j hj=>ho j (by simp [Sh.outerL.e0,Sh.outerL.e1,hj]))
  split at h
  ·refine (if_pos ‹_›).mpr ?_;exact⟨c1 _ _ h.1,c2 _ _ h.2⟩
  ·refine (if_neg ‹_›).mpr ?_;exact⟨c1 _ _ h.1,c2 _ _ h.2⟩
end
theorem B2v{q:Int}{F:Sh→Sh}:(∀s:Sh,q∉s.all→s.upd q F=s)∧ ∀ks:List Sh,q∉Sh.allL ks→Sh.updL q F ks=ks:=by
 have key: ∀n:Nat,(∀s:Sh,s.all.length≤n→q∉s.all→s.upd q F=s):=by
  intro n
  induction n with
  |zero=>intro s h;have:=s.len_all_pos;lia
  |succ n ih=>
   rintro ⟨m,ks⟩ h hq
   simp only [Sh.all.e0,List.mem_cons,not_or,List.length_cons]at hq h
   simp only [Sh.upd.e0]
   refine(if_neg (fun e=>hq.1 e.symm)).trans ?_
   congr 1
   have: ∀l:List Sh,(Sh.allL l).length≤n→q∉Sh.allL l→Sh.updL q F l=l:=by
    intro l
    induction l with
    |nil=>intro _ _;rfl
    |cons k l ih2=>
     intro h1 h2
     simp [Sh.allL.e0,Sh.allL.e1,List.length_append,List.mem_append,not_or]at h1 h2
     simp only [Sh.updL.e0,Sh.updL.e1]
     simp only [ih k (by exact Nat.le_trans (Nat.le_add_right _ _) h1) h2.1,ih2 (by exact Nat.le_trans (Nat.le_add_left _ _) h1) h2.2]
   exact this ks (Nat.le_of_lt_succ h) hq.2
 have one: ∀s:Sh,q∉s.all→s.upd q F=s:=fun s=>key _ s (Nat.le_refl _)
 refine⟨one,fun ks=>?_⟩
 induction ks with
 |nil=>intro _;rfl
 |cons k ks ih=>
  intro h
  rw [Sh.allL.e1,List.mem_append,not_or]at h
  simp only [Sh.updL.e0,Sh.updL.e1];simp only [one k h.1,ih h.2]
mutual
theorem C0m{q:Int}{F:Sh→Sh}{ex:List Int}: ∀s:Sh,(∀ks,Sub (.mk q ks) s→List.Perm (F (.mk q ks)).all (ex++(Sh.mk q ks).all))→s.all.Nodup→q∈s.all→List.Perm (s.upd q F).all (ex++s.all)
 | .mk n ks,hF,nd,hq=>by
  simp only [Sh.upd.e0]
  by_cases e:n=q
  ·rw [if_pos e];subst e;exact hF ks (.refl _)
  ·rw [if_neg e]
   simp [Sh.all.e0,List.nodup_cons,List.mem_cons]at nd hq ⊢
   have:=C1r ks (fun ks' k hk hs=>hF ks' (.step hk hs)) nd.2 (hq.resolve_left (fun w=>e w.symm))
   exact(List.Perm.cons n this).trans List.perm_middle.symm
theorem C1r{q:Int}{F:Sh→Sh}{ex:List Int}: ∀ks:List Sh,(∀ks',∀k∈ks,Sub (.mk q ks') k→List.Perm (F (.mk q ks')).all (ex++(Sh.mk q ks').all))→(Sh.allL ks).Nodup→q∈Sh.allL ks→List.Perm (Sh.allL (Sh.updL q F ks)) (ex++Sh.allL ks)
 | [],hF,nd,hq=>by exact k3 hq
 |k::ks,hF,nd,hq=>by
  simp [Sh.allL.e0,Sh.allL.e1,List.mem_append,Sh.updL.e0,Sh.updL.e1]at nd hq ⊢
  have nd':=List.nodup_append.mp nd
  by_cases e:q∈k.all
  ·have e2:q∉Sh.allL ks:=fun w=>nd'.2.2 q e q w rfl
   rw [B2v.2 ks e2,←List.append_assoc]
   exact List.Perm.append_right _ (C0m k (fun ks' hs=>hF ks' k (.head _) hs) nd'.1 e)
  ·rw [B2v.1 k e]
   have:=C1r ks (fun ks' k' hk hs=>hF ks' k' (.tail _ hk) hs) nd'.2.1 (hq.resolve_left e)
   exact(List.Perm.append_left k.all this).trans (by rw [←List.append_assoc,←List.append_assoc];exact List.Perm.append_right _ List.perm_append_comm)
end
mutual
theorem B1m{q:Int}{F:Sh→Sh}{ex:List Int}: ∀s:Sh,(∀ks,Sub (.mk q ks) s→List.Perm (F (.mk q ks)).leaves (ex++(Sh.mk q ks).leaves))→s.all.Nodup→q∈s.all→List.Perm (s.upd q F).leaves (ex++s.leaves)
 | .mk n ks,hF,nd,hq=>by
  simp only [Sh.upd.e0]
  by_cases e:n=q
  ·rw [if_pos e];subst e;exact hF ks (.refl _)
  ·rw [if_neg e]
   simp [Sh.all.e0,List.nodup_cons,List.mem_cons]at nd hq
   have hq:=hq.resolve_left (fun w=>e w.symm)
   have hk:ks≠ []:=fun w=>by subst w;exact k3 hq
   have hk':Sh.updL q F ks≠ []:=fun w=>hk (by have:=congrArg List.length w;rw [A9x]at this;exact List.length_eq_zero_iff.mp this)
   simp only [Sh.leaves_cons hk,Sh.leaves_cons hk']
   exact B3l ks (fun ks' k hk hs=>hF ks' (.step hk hs)) nd.2 hq
theorem B3l{q:Int}{F:Sh→Sh}{ex:List Int}: ∀ks:List Sh,(∀ks',∀k∈ks,Sub (.mk q ks') k→List.Perm (F (.mk q ks')).leaves (ex++(Sh.mk q ks').leaves))→(Sh.allL ks).Nodup→q∈Sh.allL ks→List.Perm (Sh.leavesL (Sh.updL q F ks)) (ex++Sh.leavesL ks)
 | [],hF,nd,hq=>by exact k3 hq
 |k::ks,hF,nd,hq=>by
  simp [Sh.allL.e0,Sh.allL.e1,List.mem_append,Sh.updL.e0,Sh.updL.e1,Sh.leavesL.e0,Sh.leavesL.e1]at nd hq ⊢
  have nd':=List.nodup_append.mp nd
  by_cases e:q∈k.all
  ·have e2:q∉Sh.allL ks:=fun w=>nd'.2.2 q e q w rfl
   rw [B2v.2 ks e2,←List.append_assoc]
   exact List.Perm.append_right _ (B1m k (fun ks' hs=>hF ks' k (.head _) hs) nd'.1 e)
  ·rw [B2v.1 k e]
   have:=B3l ks (fun ks' k' hk hs=>hF ks' k' (.tail _ hk) hs) nd'.2.1 (hq.resolve_left e)
   exact(List.Perm.append_left k.leaves this).trans (by rw [←List.append_assoc,←List.append_assoc];exact List.Perm.append_right _ List.perm_append_comm)
end
theorem C9c{n:Int}: ∀{sh:Sh},n∈sh.all→n=sh.num∨ ∃p ks k,Sub (.mk p ks) sh∧k∈ks∧k.num=n:=by
 have key: ∀(N:Nat) (sh:Sh),sh.all.length≤N→n∈sh.all→n=sh.num∨ ∃p ks k,Sub (.mk p ks) sh∧k∈ks∧k.num=n:=by
  intro N
  induction N with
  |zero=>intro s h;have:=s.len_all_pos;lia
  |succ N ih=>
   rintro ⟨m,ks⟩ h hn
   simp only [Sh.all.e0,List.mem_cons,List.length_cons]at hn h
   rcases hn with rfl|hn
   ·exact .inl rfl
   ·right
    refine A0e (A9k.mp hn) fun k hk hn=>?_
    have hl:k.all.length≤N:=by
     have: ∀l:List Sh,k∈l→k.all.length≤(Sh.allL l).length:=by
      intro l
      induction l with
      |nil=>intro h;exact k3 h
      |cons x l ih=>
       intro h;simp only [Sh.allL.e0,Sh.allL.e1,List.length_append];rcases List.mem_cons.mp h with rfl|h
       ·exact Nat.le_add_right _ _
       ·have:=ih h;lia
     have:=this ks hk;lia
    rcases ih k hl hn with rfl| ⟨p,ks',k',hs,hk',e⟩
    ·exact D0o m ks k (.refl _) hk rfl
    ·exact D0o p ks' k' (.step hk hs) hk' e
 exact fun{sh} h=>key _ sh (Nat.le_refl _) h
theorem Geo.num_get{t:Tree}: ∀{s:Sh} {par ps wd ht:Int},s.Geo t par ps wd ht→ ∃w,t.get s.num=some w∧w.parent=par∧w.sort≠ps∧w.width=wd∧w.height=ht
 | .mk n ks,par,ps,wd,ht,h=>by
  simp only [Sh.Geo.e0]at h
  refine A5l h fun w g h1 h2 h3 h4 y9a=>?_
  try clear h
  refine A1a y9a fun h5 h6 h7=>?_
  exact D0q w g h1 h5 h3 h4
theorem Geo.kid{t:Tree}(h0:0≤t.lw)(h0':0≤t.lh){p:Int}{ks:List Sh}{par ps wd ht:Int}(h:(Sh.mk p ks).Geo t par ps wd ht){k:Sh}(hk:k∈ks):
  ∃wp wk,t.get p=some wp∧wp.kids=ks.map Sh.num∧t.get k.num=some wk∧wk.parent=p∧wk.sort≠wp.sort∧(wp.sort=1∨wp.sort=2):=by
 simp only [Sh.Geo.e0]at h
 refine A5l h fun w g h1 h2 h3 h4 y9a=>?_
 try clear h
 refine A1a y9a fun h5 h6 h7=>A1a (h7 (List.ne_nil_of_mem hk)) fun q1 q2 q3=>A1x (GeoL.mem h0 h0' q3 hk) fun wd' ht' g' _ _=>A6d (Geo.num_get g') fun wk e1 e2 e3 _=>?_
 exact C7z w wk g h2 e1 e2 e3 q1
noncomputable def A7q(wp:Win)(n m:Int):Win:=wp.s_kids (wp.kids.take (wp.kids.idxOf n+1)++m::wp.kids.drop (wp.kids.idxOf n+1))
theorem A9h{p a old new:Int}{wp:Win}(h2:t.get n=some w)(h3:t.get p=some wp)(hpn:p≠n)(hm:t.get (t.last+1)=none)(k:Int):
  (A1k t n p a old new w wp).get k=if k=t.last+1 then some (A5d w p a new)else if k=n then some (w.setSize a old)else if k=p then some ((A7q wp n (t.last+1)).s_ver (wp.ver+1))else t.get k:=by
 have hT:(t.s_last (t.last+1)).get (t.last+1)=none:=by simp only [Tree.get_s_last];exact hm
 have hpm:p≠t.last+1:=fun e=>by rw [←e,h3]at hm;exact k2 hm
 have hnm:n≠t.last+1:=fun e=>by rw [←e,h2]at hm;exact k2 hm
 unfold A1k
 dsimp only
 have g0: ∀k,((t.s_last (t.last+1)).add (t.last+1) (A5d w p a new)).get k=if k=t.last+1 then some (A5d w p a new)else t.get k:=fun k=>by simp only [Tree.get_add hT,Tree.get_s_last]
 generalize (t.s_last (t.last+1)).add (t.last+1) (A5d w p a new)=ta at g0
 have gp:ta.get p=some wp:=by rw [g0,if_neg hpm];exact h3
 have gn:(ta.put p (A7q wp n (t.last+1))).get n=some w:=by rw [Tree.get_put_ne (Ne.symm hpn),g0,if_neg hnm];exact h2
 have gp2:((ta.put p (A7q wp n (t.last+1))).put n (w.setSize a old)).get p=some (A7q wp n (t.last+1)):=by rw [Tree.get_put_ne hpn];exact Tree.get_put_self gp _
 show((((ta.put p (A7q wp n (t.last+1))).put n (w.setSize a old)).put p ((A7q wp n (t.last+1)).s_ver (wp.ver+1)))).get k=_
 by_cases e1:k=t.last+1
 ·refine Eq.trans ?_ (if_pos e1).symm;subst e1
  rw [Tree.get_put_ne (Ne.symm hpm),Tree.get_put_ne (Ne.symm hnm),Tree.get_put_ne (Ne.symm hpm),g0,if_pos rfl]
 ·refine Eq.trans ?_ (if_neg e1).symm
  by_cases e2:k=n
  ·refine Eq.trans ?_ (if_pos e2).symm;subst e2
   rw [Tree.get_put_ne (Ne.symm hpn)];exact Tree.get_put_self gn _
  ·refine Eq.trans ?_ (if_neg e2).symm
   by_cases e3:k=p
   ·refine Eq.trans ?_ (if_pos e3).symm;subst e3;exact Tree.get_put_self gp2 _
   ·rw [if_neg e3,Tree.get_put_ne e3,Tree.get_put_ne e2,Tree.get_put_ne e3,g0,if_neg e1]
theorem B3o{p a old new:Int}{wp:Win}:(A1k t n p a old new w wp).wins.map (·.1)=t.wins.map (·.1)++ [t.last+1]:=by
 unfold A1k
 dsimp only
 simp only [Tree.keys_put,Tree.keys_put,Tree.keys_put]
 show(t.wins++ [(t.last+1,A5d w p a new)]).map (·.1)=_
 refine(List.map_append).trans ?_;rfl
theorem B3n{p a old new:Int}{wp:Win}:(A1k t n p a old new w wp).last=t.last+1∧(A1k t n p a old new w wp).clock=t.clock∧(A1k t n p a old new w wp).lw=t.lw∧(A1k t n p a old new w wp).lh=t.lh∧(A1k t n p a old new w wp).sel=t.sel∧(A1k t n p a old new w wp).stg=t.stg∧(A1k t n p a old new w wp).root=t.root:=⟨rfl,rfl,rfl,rfl,rfl,rfl,rfl⟩
theorem B5h{a v:Int}:(w.setSize a v).sort=w.sort∧(w.setSize a v).parent=w.parent∧(w.setSize a v).kids=w.kids∧(w.setSize a v).width=(if a=0 then v else w.width)∧(w.setSize a v).height=(if a=0 then w.height else v):=by unfold Win.setSize;split <;> exact⟨rfl,rfl,rfl,rfl,rfl⟩
theorem B9p{p a v:Int}(ha:a=0∨a=1):(A5d w p a v).sort=0∧(A5d w p a v).parent=p∧(A5d w p a v).kids= []∧(A5d w p a v).width=(if a=0 then v else w.width)∧(A5d w p a v).height=(if a=0 then w.height else v)∧(A5d w p a v).ded=false:=by
 rcases ha with rfl|rfl <;> exact⟨rfl,rfl,rfl,rfl,rfl,rfl⟩
noncomputable def A0o(n m:Int):List Sh→List Sh
 | []=> [.mk m []]
 |k::ks=>if k.num=n then k:: .mk m []::ks else k::A0o n m ks
theorem A0o.e0{n m:Int}:A0o n m []=([.mk m []]):=rfl
theorem A0o.e1{n m:Int}{k ks}:A0o n m (k::ks)=(if k.num=n then k:: .mk m []::ks else k::A0o n m ks):=rfl
theorem B2h{m:Int}: ∀ks:List Sh,List.Perm (Sh.allL (A0o n m ks)) (m::Sh.allL ks)
 | []=>by rfl
 |k::ks=>by
  simp only [A0o.e0,A0o.e1]
  split
  ·simp only [Sh.allL.e0,Sh.allL.e1,Sh.all.e0,List.cons_append,List.nil_append];exact List.perm_middle
  ·simp only [Sh.allL.e0,Sh.allL.e1];exact(List.Perm.append_left k.all (B2h ks)).trans List.perm_middle
theorem A8x{m:Int}: ∀ks:List Sh,List.Perm (Sh.leavesL (A0o n m ks)) (m::Sh.leavesL ks)
 | []=>by rfl
 |k::ks=>by
  simp only [A0o.e0,A0o.e1]
  split
  ·simp only [Sh.leavesL.e0,Sh.leavesL.e1,Sh.leaves.e0,Sh.leaves.e1,List.cons_append,List.nil_append];exact List.perm_middle
  ·simp only [Sh.leavesL.e0,Sh.leavesL.e1];exact(List.Perm.append_left k.leaves (A8x ks)).trans List.perm_middle
theorem B0r{m:Int}: ∀ks:List Sh,n∈ks.map Sh.num→(A0o n m ks).map Sh.num=(ks.map Sh.num).take ((ks.map Sh.num).idxOf n+1)++m::(ks.map Sh.num).drop ((ks.map Sh.num).idxOf n+1)
 | [],h=>by exact k3 h
 |k::ks,h=>by
  simp only [A0o.e0,A0o.e1,List.map_cons]
  by_cases e:k.num=n
  ·refine (congrArg _ (if_pos e)).trans ?_;simp only [List.map_cons,e,List.idxOf_cons_self];rfl
  ·have h':n∈ks.map Sh.num:=by simp only [List.map_cons,List.mem_cons]at h;exact h.resolve_left (fun w=>e w.symm)
   rw [if_neg e,List.map_cons,B0r ks h',List.idxOf_cons]
   have:(k.num == n)=false:=by simpa using e
   rw [this];rfl
theorem A7f{m:Int}: ∀ks:List Sh,(A0o n m ks).length=ks.length+1
 | []=>rfl
 |k::ks=>by simp only [A0o.e0,A0o.e1];split <;> simp [A7f ks]
theorem A8y{t t':Tree}{m p ps a old new:Int}(hl:t'.lw=t.lw)(hl2:t'.lh=t.lh)(ha:a=if ps=2 then 0 else 1)(h1:t.lw≤(if a=0 then new else w.width))(h2:t.lh≤(if a=0 then w.height else new))(h3:t.lw≤(if a=0 then old else w.width))(h4:t.lh≤(if a=0 then w.height else old))(hs:old+new=w.sz a)
  (hw:t.get n=some w) (hw0:w.sort=0) (hwk:w.kids= []) (gn:t'.get n=some (w.setSize a old)) (gm:t'.get m=some (A5d w p a new)) (hps:ps≠0):
  ∀(ks:List Sh) (wd ht:Int),(Sh.allL ks).Nodup→n∈ks.map Sh.num→(∀k∈Sh.allL ks,k≠n→t'.get k=t.get k)→Sh.GeoL t p ps ks wd ht→Sh.GeoL t' p ps (A0o n m ks) wd ht
 | [],wd,ht,nd,hn,ho,h=>by exact k3 hn
 |k::ks,wd,ht,nd,hn,ho,h=>by
  have ha01:a=0∨a=1:=by rw [ha];split <;> decide
  simp only [Sh.allL.e0,Sh.allL.e1]at nd
  have nd':=List.nodup_append.mp nd
  simp only [A0o.e0,A0o.e1]
  by_cases e:k.num=n
  ·rw [if_pos e]
   obtain ⟨n',ks'⟩:=k
   have e:n'=n:=e
   subst e
   have rest: ∀a b,Sh.GeoL t p ps ks a b→Sh.GeoL t' p ps ks a b:=fun a b=>GeoL.congr hl hl2 ks p ps a b fun j hj w hw=>by
    have hne:j≠n':=fun w=>nd'.2.2 n' (.head _) j hj w.symm
    exact A1f w (by refine(ho j (by simp [Sh.allL.e0,Sh.allL.e1,List.mem_append];exact .inr hj) hne).trans ?_;exact hw) (SameG.refl w)
   refine C8q (B5h (w:=w) (a:=a) (v:=old)) fun s1 s2 s3 s4 s5=>B8a (B9p (w:=w) (p:=p) (v:=new) ha01) fun l1 l2 l3 l4 l5 _=>?_
   have kn:ks'= []:=by
    simp only [Sh.GeoL.e0,Sh.GeoL.e1]at h
    refine A0i h fun s h=>?_
    have: ∀a b,(Sh.mk n' ks').Geo t p ps a b→ks'= []:=fun a b h=>by
     simp only [Sh.Geo.e0]at h
     refine A6d h fun w' g _ q _=>?_
     try clear h
     rw [hw]at g;cases g
     rw [hwk]at q
     exact List.map_eq_nil_iff.mp q.symm
    split at h <;> exact this _ _ h.1
   subst kn
   have gN: ∀wd ht,(Sh.mk n' []).Geo t p ps wd ht→w.width=wd∧w.height=ht∧w.parent=p:=fun wd ht h=>by
    simp only [Sh.Geo.e0]at h
    refine A5l h fun w' g q1 _ q2 q3 _=>?_
    try clear h
    rw [hw]at g;cases g;exact⟨q2,q3,q1⟩
   have mk1:(w.parent=p)→(Sh.mk n' []).Geo t' p ps (if a=0 then old else w.width) (if a=0 then w.height else old):=fun hp=>by
    simp only [Sh.Geo.e0]
    exact B0f _ gn (s2.trans hp) (s3.trans hwk) s4 s5 (A4x (by simp only [s1,hw0];exact Ne.symm hps) (fun _=>⟨s1.trans hw0,by simp only [hl];exact h3,by simp only [hl2];exact h4⟩) (fun q=>absurd rfl q))
   have mk2:(Sh.mk m []).Geo t' p ps (if a=0 then new else w.width) (if a=0 then w.height else new):=by
    simp only [Sh.Geo.e0]
    exact B0f _ gm l2 l3 l4 l5 (A4x (by rw [l1];exact Ne.symm hps) (fun _=>⟨l1,by simp only [hl];exact h1,by simp only [hl2];exact h2⟩) (fun q=>absurd rfl q))
   simp only [Sh.GeoL.e0,Sh.GeoL.e1]at h ⊢
   refine A0i h fun s h=>?_
   by_cases hp2:ps=2
   ·rw [if_pos hp2]at h ha
    subst ha
    refine A1a (gN _ _ h.1) fun q1 q2 q3=>⟨old,?_⟩
    refine(if_pos hp2).mpr (A8b (by have:=mk1 q3;simpa [q2]using this) (D2s new ?_))
    refine(if_pos hp2).mpr (⟨by simpa [q2]using mk2,?_⟩)
    have:wd-old-new=wd-s:=by have:w.sz 0=w.width:=rfl;exact Z24 hs q1 this
    rw [this];exact rest _ _ h.2
   ·rw [if_neg hp2]at h ha
    subst ha
    refine A1a (gN _ _ h.1) fun q1 q2 q3=>⟨old,?_⟩
    refine(if_neg hp2).mpr (A8b (by have:=mk1 q3;simpa [q1]using this) (D2s new ?_))
    refine(if_neg hp2).mpr (⟨by simpa [q1]using mk2,?_⟩)
    have:ht-old-new=ht-s:=by have:w.sz 1=w.height:=rfl;exact Z24 hs q2 this
    simp only [this];exact rest _ _ h.2
  ·rw [if_neg e]
   have h':n∈ks.map Sh.num:=by simp only [List.map_cons,List.mem_cons]at hn;exact hn.resolve_left (fun w=>e w.symm)
   have hnk:n∉k.all:=fun q=>by
    refine A0e (List.mem_map.mp h') fun x hx hxn=>?_
    have:n∈Sh.allL ks:=A9k.mpr ⟨x,hx,by simp only [←hxn];cases x;exact .head _⟩
    exact nd'.2.2 n q n this rfl
   have first: ∀a b,k.Geo t p ps a b→k.Geo t' p ps a b:=fun a b=>Geo.congr hl hl2 k p ps a b fun j hj w hw=>by
    exact A1f w (by refine(ho j (by simp [Sh.allL.e0,Sh.allL.e1,List.mem_append];exact .inl hj) (fun q=>hnk (q▸hj))).trans ?_;exact hw) (SameG.refl w)
   have ih:=fun a b=>A8y hl hl2 ha h1 h2 h3 h4 hs hw hw0 hwk gn gm hps ks a b nd'.2.1 h' (fun j hj hne=>ho j (by simp [Sh.allL.e0,Sh.allL.e1,List.mem_append];exact .inr hj) hne)
   simp only [Sh.GeoL.e0,Sh.GeoL.e1]at h ⊢
   refine A0i h fun s h=>⟨s,?_⟩
   split at h
   ·refine (if_pos ‹_›).mpr ?_;exact⟨first _ _ h.1,ih _ _ h.2⟩
   ·refine (if_neg ‹_›).mpr ?_;exact⟨first _ _ h.1,ih _ _ h.2⟩
mutual
noncomputable def Sh.Pos(t:Tree):Sh→Int→Int→Prop
 | .mk n ks,l,tp=> ∃w,t.get n=some w∧w.left=l∧w.top=tp∧Sh.PosL t (w.sort == 2) ks l tp
noncomputable def Sh.PosL(t:Tree)(row:Bool):List Sh→Int→Int→Prop
 | [],_,_=>True
 |k::ks,l,tp=>Sh.Pos t k l tp∧Sh.PosL t row ks (if row then l+t.wd k.num else l) (if row then tp else tp+t.ht k.num)
end
theorem Sh.PosL.e0{t:Tree}{row:Bool}{u1 u2}:Sh.PosL t row [] u1 u2=(True):=rfl
theorem Sh.PosL.e1{t:Tree}{row:Bool}{k ks l tp}:Sh.PosL t row (k::ks) l tp=(Sh.Pos t k l tp∧Sh.PosL t row ks (if row then l+t.wd k.num else l) (if row then tp else tp+t.ht k.num)):=rfl
theorem Sh.Pos.e0{t:Tree}{n ks l tp}:Sh.Pos t (.mk n ks) l tp=(∃w,t.get n=some w∧w.left=l∧w.top=tp∧Sh.PosL t (w.sort == 2) ks l tp):=rfl
theorem B0d{t₀ t:Tree}{row:Bool}: ∀(ks:List Sh) (l tp:Int),(∀x∈A2n t₀ row ks l tp,x.1.Pos t x.2.1 x.2.2)→(∀k,t.wd k=t₀.wd k∧t.ht k=t₀.ht k)→Sh.PosL t row ks l tp
 | [],l,tp,_,_=>by simp only [Sh.PosL.e0,Sh.PosL.e1]
 |k::ks,l,tp,h,hw=>by
  simp only [Sh.PosL.e0,Sh.PosL.e1]
  simp only [A2n.e0,A2n.e1,List.mem_cons,forall_eq_or_imp]at h
  refine⟨h.1,?_⟩
  cases row with
  |true=>rw [(hw k.num).1];exact B0d ks _ _ h.2 hw
  |false=>rw [(hw k.num).2];exact B0d ks _ _ h.2 hw
theorem C6e{a b:List Sh}(h:List.Perm a b):List.Perm (Sh.allL a) (Sh.allL b):=by
 induction h with
 |nil=>exact .refl _
 |cons x _ ih=>simp only [Sh.allL.e0,Sh.allL.e1];exact List.Perm.append_left _ ih
 |swap x y l=>simp only [Sh.allL.e0,Sh.allL.e1];rw [←List.append_assoc,←List.append_assoc];exact List.Perm.append_right _ List.perm_append_comm
 |trans _ _ ih1 ih2=>exact ih1.trans ih2
theorem PlRun.pos{t₀:Tree}{ws:List (Sh×Int×Int)}{t t':Tree}(h:PlRun t₀ ws t t')(hw: ∀k,t'.wd k=t₀.wd k∧t'.ht k=t₀.ht k):(Sh.allL (ws.map (·.1))).Nodup→(∀k,k∉Sh.allL (ws.map (·.1))→t'.get k=t.get k)∧ ∀x∈ws,x.1.Pos t' x.2.1 x.2.2:=by
 induction h with
 |nil=>exact fun _=>⟨fun _ _=>rfl,fun x hx=>nomatch hx⟩
 | @cons n ks l tp ws t t' w hg h ih=>
  intro nd
  rw [List.map_cons,Sh.allL.e1,Sh.all.e0,List.cons_append,List.nodup_cons,List.mem_append,not_or]at nd
  have pm:List.Perm (Sh.allL (((A2n t₀ (w.sort == 2) ks l tp).reverse++ws).map (·.1))) (Sh.allL ks++Sh.allL (ws.map (·.1))):=by
   rw [←Sh.allL_app]
   refine C6e ?_
   simp only [List.map_append,List.map_reverse,A6h]
   exact List.Perm.append_right _ (List.reverse_perm _)
  refine A0f (ih hw (pm.nodup_iff.mpr nd.2)) fun i1 i2=>?_
  have nn:n∉Sh.allL (((A2n t₀ (w.sort == 2) ks l tp).reverse++ws).map (·.1)):=fun q=>by
   have:=pm.mem_iff.mp q
   replace this:=(List.mem_append).mp this
   exact this.elim nd.1.1 nd.1.2
  have gn:t'.get n=some ((w.s_left l).s_top tp):=by refine(i1 n nn).trans ?_;exact Tree.get_put_self hg _
  refine⟨fun k hk=>?_,fun x hx=>?_⟩
  ·simp [List.map_cons,Sh.allL.e0,Sh.allL.e1,Sh.all.e0,List.cons_append,List.mem_cons,List.mem_append,not_or]at hk
   rw [i1 k (fun q=>by have:=pm.mem_iff.mp q;replace this:=(List.mem_append).mp this;exact this.elim hk.2.1 hk.2.2),Tree.get_put_ne hk.1]
  ·rcases List.mem_cons.mp hx with rfl|hx
   ·simp only [Sh.Pos.e0]
    refine B7l _ gn rfl rfl ?_
    show Sh.PosL t' (w.sort == 2) ks l tp
    exact B0d ks l tp (fun y hy=>i2 y (List.mem_append_left _ (List.mem_reverse.mpr hy))) hw
   ·exact i2 x (List.mem_append_right _ hx)
theorem SameP.wdht{ns:List Int}{t t':Tree}(h:SameP ns t t')(k:Int):t'.wd k=t.wd k∧t'.ht k=t.ht k:=by
 refine B5w (h.get k) fun l tp e=>?_
 unfold Tree.wd Tree.ht
 rw [e]
 cases t.get k with
 |none=>exact⟨rfl,rfl⟩
 |some w=>simp only [Option.map_some,Option.getD_some];split <;> exact⟨rfl,rfl⟩
noncomputable def C3m(w w':Win):Prop:= ∃l tp,w'=(w.s_left l).s_top tp
theorem SameP.same{ns:List Int}{t t':Tree}(h:SameP ns t t'){k:Int}{w:Win}(hk:t.get k=Option.some w): ∃w',t'.get k=Option.some w'∧C3m w w':=by
 refine B5w (h.get k) fun l tp e=>?_
 rw [hk,Option.map_some]at e
 refine A1f _ e ?_
 split
 ·exact C8b l tp rfl
 ·exact C8b w.left w.top rfl
theorem C3m.g{w w':Win}(h:C3m w w'):SameG w w':=by obtain ⟨l,tp,rfl⟩:=h;exact⟨rfl,rfl,rfl,rfl,rfl⟩
mutual
theorem Pos.congr{t t':Tree}(hw: ∀k,t'.wd k=t.wd k∧t'.ht k=t.ht k): ∀(s:Sh) (l tp:Int),(∀k∈s.all,∀w,t.get k=some w→ ∃w',t'.get k=some w'∧w'.left=w.left∧w'.top=w.top∧w'.sort=w.sort)→s.Pos t l tp→s.Pos t' l tp
 | .mk n ks,l,tp,hc,h=>by
  simp only [Sh.Pos.e0]at h ⊢
  refine A6d h fun w g h1 h2 h3=>?_
  try clear h
  refine A6d (hc n (.head _) w g) fun w' g' e1 e2 e3=>?_
  exact B7l w' g' (e1.trans h1) (e2.trans h2) (by rw [e3];exact PosL.congr hw _ ks l tp (fun k hk=>hc k (by simp [Sh.all.e0,hk])) h3)
theorem PosL.congr{t t':Tree}(hw: ∀k,t'.wd k=t.wd k∧t'.ht k=t.ht k)(row:Bool): ∀(ks:List Sh) (l tp:Int),(∀k∈Sh.allL ks,∀w,t.get k=some w→ ∃w',t'.get k=some w'∧w'.left=w.left∧w'.top=w.top∧w'.sort=w.sort)→Sh.PosL t row ks l tp→Sh.PosL t' row ks l tp
 | [],l,tp,_,_=>by simp only [Sh.PosL.e0,Sh.PosL.e1]
 |k::ks,l,tp,hc,h=>by
  simp only [Sh.PosL.e0,Sh.PosL.e1]at h ⊢
  rw [(hw k.num).1,(hw k.num).2]
  exact⟨Pos.congr hw k l tp (fun j hj=>hc j (by simp [Sh.allL.e0,Sh.allL.e1,hj])) h.1,PosL.congr hw row ks _ _ (fun j hj=>hc j (by simp [Sh.allL.e0,Sh.allL.e1,hj])) h.2⟩
end
theorem Pos.sub{t:Tree}{s sh:Sh}(hs:Sub s sh): ∀{l tp:Int},sh.Pos t l tp→ ∃l' tp',s.Pos t l' tp':=by
 induction hs with
 |refl=>exact fun h=>⟨_,_,h⟩
 | @step k n ks hk _ ih=>
  intro l tp h
  simp only [Sh.Pos.e0]at h
  refine A6d h fun w g h1 h2 h3=>?_
  try clear h
  have: ∀(ks:List Sh) (l tp:Int),Sh.PosL t (w.sort == 2) ks l tp→k∈ks→ ∃l' tp',k.Pos t l' tp':=by
   intro ks
   induction ks with
   |nil=>intro l tp _ h;exact k3 h
   |cons x ks ih=>
    intro l tp h hk
    simp only [Sh.PosL.e0,Sh.PosL.e1]at h
    rcases List.mem_cons.mp hk with rfl|hk
    ·exact C8b _ _ h.1
    ·exact ih _ _ h.2 hk
  refine B5w (this ks _ _ h3 hk) fun l' tp' h=>?_
  exact ih h
structure Good (sh:Sh) (t:Tree):Prop where
 stg:t.stg=7
 root:t.root=sh.num
 nd:sh.all.Nodup
 knd:(t.wins.map (·.1)).Nodup
 keys: ∀k,k∈t.wins.map (·.1)↔k∈sh.all
 bound: ∀k∈sh.all,1≤k∧k≤t.last
 geo: ∃W H,sh.Geo t 0 (-1) W H∧W≤1000000∧H≤1000000
 pos:sh.Pos t 0 0
 sel:t.sel∈sh.leaves
 lw:t.lw=3
 lh:t.lh=2
theorem Good.gone{sh:Sh}{t:Tree}(g:Good sh t){k:Int}(h:k∉sh.all):t.get k=none:=by
 cases e:t.get k with
 |none=>rfl
 |some w=>
  refine absurd ((g.keys k).mp ?_) h
  have: ∀l:List (Int×Win),l.lookup k=some w→k∈l.map (·.1):=by
   intro l
   induction l with
   |nil=>intro h;exact k1 h
   |cons p l ih=>
    obtain ⟨a,b⟩:=p
    intro h
    simp only [List.lookup_cons]at h
    by_cases q:k=a
    ·simp [q]
    ·have:(k == a)=false:=by simpa using q
     rw [this]at h
     simp only [List.map_cons,List.mem_cons];exact .inr (ih h)
  exact this t.wins e
theorem Good.len{sh:Sh}{t:Tree}(g:Good sh t):t.wins.length=sh.all.length:=by
 have:=(List.perm_ext_iff_of_nodup g.knd g.nd).mpr g.keys
 have:=this.length_eq
 simpa using this
theorem Good.rep{sh:Sh}{t:Tree}(g:Good sh t):sh.Rep t:=by obtain ⟨W,H,h,_⟩:=g.geo;exact Geo.rep _ _ _ _ _ h
theorem Good.fresh{sh:Sh}{t:Tree}(g:Good sh t){k:Int}(h:t.last<k):t.get k=none:=g.gone fun q=>by have:=(g.bound k q).2;exact Z19 h this
theorem Good.leaf{sh:Sh}{t:Tree}(g:Good sh t){n:Int}(h:n∈sh.leaves): ∃w,t.get n=some w∧w.sort=0∧w.kids= []∧3≤w.width∧2≤w.height∧w.width≤1000000∧w.height≤1000000:=by
 refine A1x g.geo fun W H hg hW hH=>?_
 obtain ⟨par,ps,wd,ht,q,e1,e2⟩:=Geo.sub (by rw [g.lw];decide) (by rw [g.lh];decide) (A6n sh h) hg
 simp only [Sh.Geo.e0]at q
 refine A5l q fun w g0 h1 h2 h3 h4 y9a=>?_
 try clear q
 refine A1a y9a fun h5 h6 h7=>A1a (h6 trivial) fun q1 q2 q3=>?_
 rw [g.lw]at q2;rw [g.lh]at q3
 exact B0f w g0 q1 h2 (by exact Z25 h3 q2) (by exact Z26 h4 q3) (A8b (by exact Z27 hW e1 h3) (by exact Z27 hH e2 h4))
theorem Good.win{sh:Sh}{t:Tree}(g:Good sh t){n:Int}(h:n∈sh.all): ∃w,t.get n=some w:=by
 refine A3w g.geo fun W H hg _=>A0i (A6f sh h) fun ks hs=>?_
 obtain ⟨par,ps,wd,ht,q,_⟩:=Geo.sub (by rw [g.lw];decide) (by rw [g.lh];decide) hs hg
 refine A0e (Geo.num_get q) fun w e _=>?_
 exact⟨w,e⟩
theorem Geo.has{t:Tree}(h0:0≤t.lw)(h0':0≤t.lh){s:Sh}{par ps wd ht:Int}(h:s.Geo t par ps wd ht){k:Int}(hk:k∈s.all): ∃w,t.get k=some w:=by
 refine A0i (A6f s hk) fun ks hs=>C3f (Geo.sub h0 h0' hs h) fun par' ps' wd' ht' q _=>A0e (Geo.num_get q) fun w e _=>?_
 exact⟨w,e⟩
structure SameS (w w':Win):Prop where
 buf:w'.buf=w.buf
 start:w'.start=w.start
 point:w'.point=w.point
 hscroll:w'.hscroll=w.hscroll
 ded:w'.ded=w.ded
 use:w'.use=w.use
 ear:w'.ear=w.ear
 lat:w'.lat=w.lat
theorem C3m.s{w w':Win}(h:C3m w w'):SameS w w':=by obtain ⟨l,tp,rfl⟩:=h;exact⟨rfl,rfl,rfl,rfl,rfl,rfl,rfl,rfl⟩
theorem SameS.trans{a b c:Win}(h:SameS a b)(h':SameS b c):SameS a c:=⟨h'.1.trans h.1,h'.2.trans h.2,h'.3.trans h.3,h'.4.trans h.4,h'.5.trans h.5,h'.6.trans h.6,h'.7.trans h.7,h'.8.trans h.8⟩
noncomputable def A2v(t:Tree):Prop:= ∀k w,t.get k=some w→w.ear= .lst []∧w.lat= .lst []
structure SplitR (sh:Sh) (t:Tree) (n a m:Int) (sh':Sh) (t':Tree):Prop where
 good:Good sh' t'
 leaves:List.Perm sh'.leaves (m::sh.leaves)
 len:sh'.all.length≤sh.all.length+2
 nm:m∉sh.all
 olds: ∀k∈sh.leaves,∀w,t.get k=some w→ ∃w',t'.get k=some w'∧SameS w w'
 plc: ∀wn wm,t'.get n=some wn→t'.get m=some wm→if a=0 then wn.left<wm.left∧wm.top=wn.top else wn.top<wm.top∧wm.left=wn.left
 sel:t'.sel=t.sel
 plain:A2v t'
theorem B4h{sh sh':Sh}{t T5 t':Tree}{m W H:Int}{ex:List Int}(g:Good sh t)(hall:List.Perm sh'.all (ex++sh.all))(hlv:List.Perm sh'.leaves (m::sh.leaves))(hnum:T5.root=sh'.num)(hkeys:T5.wins.map (·.1)=t.wins.map (·.1)++ex)(hex:ex.Nodup∧(∀k∈ex,t.last<k∧k≤T5.last)∧t.last≤T5.last)
  (hgeo:sh'.Geo T5 0 (-1) W H) (hW:W≤1000000) (hH:H≤1000000) (r:T5.lw=t.lw∧T5.lh=t.lh∧T5.sel=t.sel∧T5.stg=t.stg) (sp:SameP sh'.all T5 t') (pr:PlRun T5 [(sh',0,0)] T5 t'):Good sh' t':=by
 refine B8a sp.rest fun e1 e2 e3 e4 e5 y9a=>A0f y9a fun e6 e7=>?_
 have exn: ∀k∈ex,k∉sh.all:=fun k hk q=>by have:=(g.bound k q).2;have:=(hex.2.1 k hk).1;lia
 have nd:sh'.all.Nodup:=hall.nodup_iff.mpr (List.nodup_append.mpr ⟨hex.1,g.nd,fun a ha b hb e=>exn a ha (e▸hb)⟩)
 refine⟨by refine((e7).trans (r.2.2.2)).trans ?_;exact g.stg,by refine(e5).trans ?_;exact hnum,nd,?_,fun k=>?_,fun k hk=>?_,⟨W,H,?_,hW,hH⟩,?_,?_,by refine((e3).trans (r.1)).trans ?_;exact g.lw,by refine((e4).trans (r.2.1)).trans ?_;exact g.lh⟩
 ·simp only [sp.keys,hkeys]
  exact List.nodup_append.mpr ⟨g.knd,hex.1,fun a ha b hb e=>exn b hb ((g.keys b).mp (e▸ha))⟩
 ·rw [sp.keys,hkeys,hall.mem_iff,List.mem_append,List.mem_append,g.keys];exact or_comm
 ·rw [hall.mem_iff,List.mem_append]at hk
  rw [e1]
  rcases hk with hk|hk
  ·have:=hex.2.1 k hk
   have hl:1≤sh.num∧sh.num≤t.last:=g.bound _ (by cases sh;exact .head _)
   lia
  ·have:=g.bound k hk;lia
 ·exact Geo.congr e3 e4 _ _ _ _ _ (fun k hk w hw=>let ⟨w',a,b⟩:=sp.same hw;⟨w',a,b.g⟩) hgeo
 ·have nd1:(Sh.allL ([(sh',(0:Int),(0:Int))].map (·.1))).Nodup:=by simpa [Sh.allL.e0,Sh.allL.e1]using nd
  exact(pr.pos (fun k=>sp.wdht k) nd1).2 _ (.head _)
 ·simp only [e6,r.2.2.1,hlv.mem_iff];exact .tail _ g.sel
theorem C4f{q:Int}{F:Sh→Sh}{ks:List Sh}{sh:Sh}(h:Sub (.mk q ks) sh):sh.all.Nodup→Sub (F (.mk q ks)) (sh.upd q F):=by
 generalize hs:Sh.mk q ks=s at h
 induction h with
 |refl=>intro _;subst hs;simp [Sh.upd.e0,if_true];exact .refl _
 | @step k n ks' hk hsub ih=>
  intro nd
  simp [Sh.all.e0,List.nodup_cons]at nd
  have hq:q∈k.all:=hsub.all q (by rw [←hs];exact .head _)
  have hne:n≠q:=fun e=>nd.1 (A9k.mpr ⟨k,hk,e▸hq⟩)
  simp only [Sh.upd.e0,if_neg hne]
  have ndk:k.all.Nodup:=by
   have: ∀l:List Sh,(Sh.allL l).Nodup→k∈l→k.all.Nodup:=by
    intro l
    induction l with
    |nil=>intro _ h;exact k3 h
    |cons x l ih=>
     intro h hk
     simp only [Sh.allL.e0,Sh.allL.e1]at h
     have:=List.nodup_append.mp h
     rcases List.mem_cons.mp hk with rfl|hk
     ·exact this.1
     ·exact ih this.2.1 hk
   exact this ks' nd.2 hk
  refine .step (k:=k.upd q F) ?_ (ih ndk)
  have: ∀l:List Sh,k∈l→k.upd q F∈Sh.updL q F l:=by
   intro l
   induction l with
   |nil=>intro h;exact k3 h
   |cons x l ih=>
    intro h
    simp only [Sh.updL.e0,Sh.updL.e1]
    rcases List.mem_cons.mp h with rfl|h
    ·exact .head _
    ·exact .tail _ (ih h)
  exact this ks' hk
theorem B7b{t:Tree}: ∀{s:Sh} {l tp:Int},s.Pos t l tp→ ∃w,t.get s.num=some w∧w.left=l∧w.top=tp
 | .mk n ks,l,tp,h=>by
  simp only [Sh.Pos.e0]at h
  refine A6d h fun w g h1 h2 _=>?_
  try clear h
  exact A8n w g h1 h2
theorem B2g{t:Tree}{n m:Int}{row:Bool}: ∀(ks:List Sh) (l tp:Int),n∈ks.map Sh.num→Sh.PosL t row (A0o n m ks) l tp→
  ∃wn wm,t.get n=some wn∧t.get m=some wm∧wm.left=(if row then wn.left+t.wd n else wn.left)∧wm.top=(if row then wn.top else wn.top+t.ht n)
 | [],l,tp,h,_=>by exact k3 h
 |k::ks,l,tp,h,hp=>by
  simp only [A0o.e0,A0o.e1]at hp
  by_cases e:k.num=n
  ·rw [if_pos e]at hp
   simp only [Sh.PosL.e0,Sh.PosL.e1]at hp
   refine A2u (B7b hp.1) fun wn a1 a2 a3=>A2u (B7b hp.2.1) fun wm b1 b2 b3=>?_
   rw [e]at a1 b2 b3
   refine B9r wn wm a1 b1 ?_ ?_
   ·refine (b2).trans ?_;split <;> simp_all
   ·refine (b3).trans ?_;split <;> simp_all
  ·rw [if_neg e]at hp
   simp only [Sh.PosL.e0,Sh.PosL.e1]at hp
   exact B2g ks _ _ (by simp only [List.map_cons,List.mem_cons]at h;exact h.resolve_left (fun w=>e w.symm)) hp.2
theorem Good.parent{sh:Sh}(g:Good sh t)(hn:n∈sh.leaves)(h2:t.get n=some w)(hp:w.parent≠0):
  ∃wp ks,t.get w.parent=some wp∧Sub (.mk w.parent ks) sh∧wp.kids=ks.map Sh.num∧n∈ks.map Sh.num∧w.sort≠wp.sort∧(wp.sort=1∨wp.sort=2)∧w.parent≠n∧(∀k∈wp.kids,∃wk,t.get k=some wk∧wk.sort≠wp.sort∧wk.parent=w.parent):=by
 refine A3w g.geo fun W H hg _=>?_
 have l0:0≤t.lw:=by rw [g.lw];decide
 have l0':0≤t.lh:=by rw [g.lh];decide
 rcases C9c (A5f hn)with e| ⟨p,ks,k,hs,hk,e⟩
 ·refine A2u (Geo.num_get hg) fun w' g1 g2 _=>?_
  rw [←e,h2]at g1;cases g1;exact absurd g2 hp
 ·refine C3f (Geo.sub l0 l0' hs hg) fun par ps wd ht q _=>B7z (Geo.kid l0 l0' q hk) fun wp wk q1 q2 q3 q4 q5 q6=>?_
  rw [e,h2]at q3;cases q3
  subst q4
  refine C7z wp ks q1 hs q2 (List.mem_map.mpr ⟨k,hk,e⟩) q5 (A4x q6 (fun e2=>?_) (fun k' hk'=>?_))
  ·rw [e2,h2]at q1;cases q1;exact q5 rfl
  ·rw [q2]at hk'
   refine A0e (List.mem_map.mp hk') fun x hx y9a=>?_
   obtain rfl:=y9a
   refine B7z (Geo.kid l0 l0' q hx) fun wp' wk' r1 r2 r3 r4 r5 r6=>?_
   rw [q1]at r1;cases r1
   exact A8n wk' r3 r5 r4
theorem C4h{s sh:Sh}(h:Sub s sh):sh.all.Nodup→s.all.Nodup:=by
 induction h with
 |refl=>exact fun h=>h
 | @step k n ks hk _ ih=>
  intro nd
  simp [Sh.all.e0,List.nodup_cons]at nd
  have: ∀l:List Sh,(Sh.allL l).Nodup→k∈l→k.all.Nodup:=by
   intro l
   induction l with
   |nil=>intro _ h;exact k3 h
   |cons x l ih=>
    intro h hk
    simp only [Sh.allL.e0,Sh.allL.e1]at h
    have:=List.nodup_append.mp h
    rcases List.mem_cons.mp hk with rfl|hk
    ·exact this.1
    ·exact ih this.2.1 hk
  exact ih (this ks nd.2 hk)
theorem B9c{sh:Sh}{a p old new W H:Int}{wp:Win}{ks:List Sh}(g:Good sh t)(hn:n∈sh.leaves)(h2:t.get n=some w)(h0:w.sort=0)(hk:w.kids= [])(ha:(if wp.sort=2 then(0:Int)else 1)=a)(hp:w.parent=p)(hp0:p≠0)(h3:t.get p=some wp)(hsub:Sub (.mk p ks) sh)(hkk:wp.kids=ks.map Sh.num)(hin:n∈ks.map Sh.num)(hps:wp.sort=1∨wp.sort=2)(hpn:p≠n)
  (b1:3≤(if a=0 then new else w.width)) (b2:2≤(if a=0 then w.height else new)) (b3:3≤(if a=0 then old else w.width)) (b4:2≤(if a=0 then w.height else old)) (hs:old+new=w.sz a) (hg:sh.Geo t 0 (-1) W H):
  (sh.upd p fun s=> .mk s.num (A0o n (t.last+1) s.kids)).Geo (A1k t n p a old new w wp) 0 (-1) W H:=by
 have hm:=g.fresh (k:=t.last+1) (Int.le_refl _)
 have gt:=A9h (a:=a) (old:=old) (new:=new) h2 h3 hpn hm
 refine B8a (B3n (t:=t) (n:=n) (w:=w) (p:=p) (a:=a) (old:=old) (new:=new) (wp:=wp)) fun r1 r2 r3 r4 r5 y9a=>A0f y9a fun r6 r7=>?_
 generalize A1k t n p a old new w wp=T5 at gt r1 r2 r3 r4 r5 r6 r7
 have hpm:p≠t.last+1:=fun e=>by rw [←e,h3]at hm;exact k2 hm
 have hnm:n≠t.last+1:=fun e=>by rw [←e,h2]at hm;exact k2 hm
 have gp:T5.get p=some ((A7q wp n (t.last+1)).s_ver (wp.ver+1)):=by rw [gt,if_neg hpm,if_neg hpn,if_pos rfl]
 have gn:T5.get n=some (w.setSize a old):=by rw [gt,if_neg hnm,if_pos rfl]
 have gm:T5.get (t.last+1)=some (A5d w p a new):=by rw [gt,if_pos rfl]
 have l0:0≤t.lw:=by rw [g.lw];decide
 have l0':0≤t.lh:=by rw [g.lh];decide
 refine Geo.upd (q:=p) (q':=p) (F:=fun s=> .mk s.num (A0o n (t.last+1) s.kids)) r3 r4 (fun ks=>rfl) (fun ks' par ps wd ht pp nd h=>?_) sh 0 (-1) W H (.inl ⟨rfl,rfl⟩) g.nd (fun k hk w' hw'=>?_) hg
 ·show (Sh.mk p (A0o n (t.last+1) ks')).Geo T5 par ps wd ht
  have hfull:=h
  simp only [Sh.Geo.e0]at h ⊢
  refine A5l h fun w' g' q1 q2 q3 q4 y9a=>?_
  try clear h
  refine A1a y9a fun q5 q6 q7=>?_
  rw [h3]at g';cases g'
  have hin':n∈ks'.map Sh.num:=by simp only [←q2,hkk];exact hin
  have hne:ks'≠ []:=fun e=>by subst e;exact k3 hin'
  refine A1a (q7 hne) fun z1 z2 z3=>B0f _ gp q1 ?_ q3 q4 (A4x q5 (fun e=>?_) (fun _=>⟨hps,by rw [A7f];lia,?_⟩))
  ·rw [B0r ks' hin',←q2];rfl
  ·have:=congrArg List.length e;rw [A7f]at this;contradiction
  ·show Sh.GeoL T5 p wp.sort (A0o n (t.last+1) ks') wd ht
   simp [Sh.all.e0,List.nodup_cons]at nd
   refine A8y (t:=t) r3 r4 ha.symm (by simp only [g.lw];exact b1) (by simp only [g.lh];exact b2) (by simp only [g.lw];exact b3) (by simp only [g.lh];exact b4) hs h2 h0 hk gn gm (by exact Z28 hps) ks' wd ht nd.2 hin' (fun k hk hkn=>?_) z3
   have kp:k≠p:=fun e=>nd.1 (e▸hk)
   refine A0i (Geo.has l0 l0' hfull (k:=k) (by simp [Sh.all.e0,hk])) fun wk hwk=>?_
   rw [gt,if_neg (fun e:k=t.last+1=>by rw [e,hm]at hwk;exact k1 hwk),if_neg hkn,if_neg kp]
 ·refine A0f (B0n sh hk) fun ho1 ho2=>A0e (A8s sh 0 (-1) W H hg (Ne.symm hp0) k hk) fun w'' e1 e2=>?_
  rw [hw']at e1;cases e1
  have kn:k≠n:=fun e=>by rw [e,h2]at hw';cases hw';exact e2 hp
  refine A1f w' ?_ ⟨rfl,rfl,?_,rfl,rfl⟩
  ·rw [gt,if_neg (fun e:k=t.last+1=>by rw [e,hm]at hw';exact k1 hw'),if_neg kn,if_neg ho2];exact hw'
  ·have:(fun x=>if x=p then p else x)=fun x:Int=>x:=by funext x;split <;> simp_all
   simp only [this,List.map_id']
theorem C9w{l:List Int}{n m:Int}:l.Nodup→n∈l→l.set (l.idxOf n) m=l.map (fun x=>if x=n then m else x):=by
 induction l with
 |nil=>intro _ h;exact k3 h
 |cons x l ih=>
  intro nd h
  have nd:=List.nodup_cons.mp nd
  by_cases e:x=n
  ·subst e
   rw [List.idxOf_cons_self,List.set_cons_zero,List.map_cons,if_pos rfl]
   congr 1
   conv=>lhs;rw [←List.map_id l]
   refine List.map_congr_left fun y hy=>?_
   rw [if_neg (fun e:y=x=>nd.1 (by simp only [←e];exact hy))];rfl
  ·have h:=(List.mem_cons.mp h).resolve_left (fun w=>e w.symm)
   rw [List.idxOf_cons]
   have:(x == n)=false:=by simpa using e
   rw [this]
   simp only [cond_false,List.set_cons_succ,List.map_cons,if_neg e]
   exact congrArg _ (ih nd.2 h)
theorem B6h: ∀{ks:List Sh},(Sh.allL ks).Nodup→(ks.map Sh.num).Nodup
 | [],_=>by assumption
 |k::ks,h=>by
  simp only [Sh.allL.e0,Sh.allL.e1]at h
  have h:=List.nodup_append.mp h
  simp only [List.map_cons,List.nodup_cons]
  refine⟨fun q=>?_,B6h h.2.1⟩
  refine A0e (List.mem_map.mp q) fun x hx e=>?_
  exact h.2.2 k.num (by cases k;exact .head _) x.num (A9k.mpr ⟨x,hx,by cases x;exact .head _⟩) e.symm
theorem B6v{sh:Sh}{a old new W H m so:Int}{wp:Win}{T1:Tree}(g:Good sh t)(hn:n∈sh.leaves)(h2:t.get n=some w)(h0:w.sort=0)(hk:w.kids= [])(hmm:m=t.last+1)(hso:so=if a=0 then 2 else 1)(hT1:T1=A8p t n so m w wp)(ha01:a=0∨a=1)
  (h3:w.parent≠0→t.get w.parent=some wp∧n∈wp.kids∧(if wp.sort=2 then(0:Int)else 1)≠a∧w.parent≠n∧(wp.sort=1∨wp.sort=2))
  (b1:3≤(if a=0 then new else w.width)) (b2:2≤(if a=0 then w.height else new)) (b3:3≤(if a=0 then old else w.width)) (b4:2≤(if a=0 then w.height else old)) (hs:old+new=w.sz a) (hg:sh.Geo t 0 (-1) W H):
  (sh.upd n fun s=> .mk m [s,.mk (m+1) []]).Geo (A1k T1 n m a old new (w.s_parent m) (A5e w n so m)) 0 (-1) W H∧(A1k T1 n m a old new (w.s_parent m) (A5e w n so m)).root=(sh.upd n fun s=> .mk m [s,.mk (m+1) []]).num:=by
 subst hmm
 have hm:=g.fresh (k:=t.last+1) (Int.le_refl _)
 have hm2:=g.fresh (k:=t.last+1+1) (by exact Z29)
 have cg:=B4s (so:=so) h2 (fun q=>⟨(h3 q).1,(h3 q).2.2.2.1⟩) hm
 have cr:=B1x (t:=t) (n:=n) (w:=w) (so:=so) (m:=t.last+1) (wp:=wp)
 rw [←hT1]at cg cr
 have hne:n≠t.last+1:=fun e=>by rw [←e,h2]at hm;exact k2 hm
 have c1:T1.get n=some (w.s_parent (t.last+1)):=by rw [cg,if_neg hne,if_pos rfl]
 have c2:T1.get (t.last+1)=some (A5e w n so (t.last+1)):=by rw [cg,if_pos rfl]
 have hlast:T1.last=t.last+1:=cr.1
 have c3:T1.get (T1.last+1)=none:=by
  rw [hlast,cg,if_neg (by exact Z23),if_neg (fun e:t.last+1+1=n=>by rw [e,h2]at hm2;exact k2 hm2),if_neg (fun q:w.parent≠0∧t.last+1+1=w.parent=>by have:=(h3 q.1).1;rw [←q.2,hm2]at this;exact k1 this)];exact hm2
 have gt:=A9h (a:=a) (old:=old) (new:=new) c1 c2 (Ne.symm hne) c3
 refine B8a (B3n (t:=T1) (n:=n) (w:=w.s_parent (t.last+1)) (p:=t.last+1) (a:=a) (old:=old) (new:=new) (wp:=A5e w n so (t.last+1))) fun r1 r2 r3 r4 r5 y9a=>A0f y9a fun r6 r7=>?_
 rw [hlast]at gt
 rw [cr.2.2.1]at r3
 rw [cr.2.2.2.1]at r4
 replace r7:=r7.trans (cr.2.2.2.2.2.2)
 generalize A1k T1 n (t.last+1) a old new (w.s_parent (t.last+1)) (A5e w n so (t.last+1))=T5 at gt r1 r2 r3 r4 r5 r6 r7
 have hnm:n≠t.last+1+1:=fun e=>by rw [←e,h2]at hm2;exact k2 hm2
 have gp:T5.get (t.last+1)=some ((A7q (A5e w n so (t.last+1)) n (t.last+1+1)).s_ver ((A5e w n so (t.last+1)).ver+1)):=by rw [gt,if_neg (by lia),if_neg (Ne.symm hne),if_pos rfl]
 have gn:T5.get n=some ((w.s_parent (t.last+1)).setSize a old):=by rw [gt,if_neg hnm,if_pos rfl]
 have gm:T5.get (t.last+1+1)=some (A5d (w.s_parent (t.last+1)) (t.last+1) a new):=by rw [gt,if_pos rfl]
 have l0:0≤t.lw:=by rw [g.lw];decide
 have l0':0≤t.lh:=by rw [g.lh];decide
 have so12:so=1∨so=2:=by rw [hso];split <;> decide
 have kk:(A7q (A5e w n so (t.last+1)) n (t.last+1+1)).kids= [n,t.last+1+1]:=by
  show([n]:List Int).take (([n]:List Int).idxOf n+1)++(t.last+1+1)::([n]:List Int).drop (([n]:List Int).idxOf n+1)=_
  simp
 refine⟨Geo.upd (q:=n) (q':=t.last+1) (F:=fun s=> .mk (t.last+1) [s,.mk (t.last+1+1) []]) r3 r4 (fun ks=>rfl) (fun ks' par ps wd ht pp nd h=>?_) sh 0 (-1) W H (.inl ⟨rfl,rfl⟩) g.nd (fun k hk' w' hw'=>?_) hg,?_⟩
 ·show (Sh.mk (t.last+1) [.mk n ks',.mk (t.last+1+1) []]).Geo T5 par ps wd ht
  have hfull:=h
  simp only [Sh.Geo.e0]at h
  refine A5l h fun w' g' q1 q2 q3 q4 y9a=>?_
  try clear h
  refine A1a y9a fun q5 q6 q7=>?_
  rw [h2]at g';cases g'
  have e:ks'= []:=by rw [hk]at q2;exact List.map_eq_nil_iff.mp q2.symm
  subst e
  rw [Sh.Geo.e0]
  refine B0f _ gp q1 (by simp only [show ∀v,((A7q (A5e w n so (t.last+1)) n (t.last+1+1)).s_ver v).kids=(A7q (A5e w n so (t.last+1)) n (t.last+1+1)).kids from fun _=>rfl,kk];rfl) q3 q4 (A4x ?_ (fun e=>by exact k6 e) (fun _=>⟨so12,by exact Nat.le_refl _,?_⟩))
  ·show so≠ps
   rcases pp with⟨_,rfl⟩| ⟨wx,hwx,rfl⟩
   ·exact Z30 so12
   ·by_cases hp0:w.parent=0
    ·have: ∀k∈sh.all,1≤k:=fun k hk=>(g.bound k hk).1
     rw [←q1,hp0]at hwx
     exact absurd ((g.keys 0).mp (by
      have: ∀l:List (Int×Win),l.lookup 0=some wx→(0:Int)∈l.map (·.1):=by
       intro l
       induction l with
       |nil=>intro h;exact k1 h
       |cons p l ih=>
        obtain ⟨a,b⟩:=p
        intro h
        simp only [List.lookup_cons]at h
        by_cases q:(0:Int)=a
        ·simp [q]
        ·have:((0:Int) == a)=false:=by simpa using q
         rw [this]at h
         simp only [List.map_cons,List.mem_cons];exact .inr (ih h)
      exact this t.wins hwx)) (fun q=>by have:=this 0 q;lia)
    ·refine C8q (h3 hp0) fun z1 z2 z3 z4 z5=>?_
     rw [←q1,z1]at hwx;cases hwx
     intro e
     apply z3
     rcases ha01 with rfl|rfl
     ·rw [if_pos rfl]at hso;exact(if_pos (by lia))
     ·rw [if_neg (by decide)]at hso;exact(if_neg (by lia))
  ·have hps2:(A5e w n so (t.last+1)).sort=so:=rfl
   have e:([.mk n [],.mk (t.last+1+1) []]:List Sh)=A0o n (t.last+1+1) [.mk n []]:=by simp [A0o.e0,A0o.e1,Sh.num]
   show Sh.GeoL T5 (t.last+1) so [.mk n [],.mk (t.last+1+1) []] wd ht
   rw [e]
   refine A8y (t:=T1) (w:=w.s_parent (t.last+1)) (by simp only [r3,cr.2.2.1]) (by simp only [r4,cr.2.2.2.1]) ?_ (by simp only [cr.2.2.1,g.lw];exact b1) (by simp only [cr.2.2.2.1,g.lh];exact b2) (by simp only [cr.2.2.1,g.lw];exact b3) (by simp only [cr.2.2.2.1,g.lh];exact b4) hs c1 h0 hk gn gm (by exact Z28 so12) [.mk n []] wd ht (by trivial) (.head _) (fun k hk2 hkn=>?_) ?_
   ·rcases ha01 with rfl|rfl
    ·rw [if_pos rfl]at hso;rw [hso];rfl
    ·rw [if_neg (by decide)]at hso;rw [hso];rfl
   ·simp [Sh.allL.e0,Sh.allL.e1,Sh.all.e0]at hk2;exact absurd hk2 hkn
   ·have GN:(Sh.mk n []).Geo T1 (t.last+1) so wd ht:=by
     rw [Sh.Geo.e0]
     exact B0f _ c1 rfl hk q3 q4 (A4x (by show w.sort≠so;lia) (fun _=>⟨h0,by rw [cr.2.2.1];exact(q6 rfl).2.1,by rw [cr.2.2.2.1];exact(q6 rfl).2.2⟩) (fun q=>absurd rfl q))
    simp only [Sh.GeoL.e0,Sh.GeoL.e1]
    by_cases q:so=2
    ·exact ⟨wd,by refine(if_pos q).mpr ?_;exact⟨GN,by refine(if_pos q).mpr ?_;exact Int.sub_self _⟩⟩
    ·exact ⟨ht,by refine(if_neg q).mpr ?_;exact⟨GN,by refine(if_neg q).mpr ?_;exact Int.sub_self _⟩⟩
 ·refine A0f (B0n sh hk') fun ho1 ho2=>?_
  have k1:k≠t.last+1:=fun e=>by rw [e,hm]at hw';exact k1 hw'
  have k2:k≠t.last+1+1:=fun e=>by rw [e,hm2]at hw';exact k13 hw' rfl
  have kpos:=(g.bound k ho1).1
  rw [gt,if_neg k2,if_neg ho2,if_neg k1,cg,if_neg k1,if_neg ho2]
  by_cases e:w.parent≠0∧k=w.parent
  ·rw [if_pos e]
   refine A0f e fun e1 y9a=>?_
   try clear e
   obtain rfl:=y9a
   refine C8q (h3 e1) fun z1 z2 z3 z4 z5=>?_
   rw [z1]at hw';cases hw'
   refine A1f _ rfl ⟨rfl,rfl,?_,rfl,rfl⟩
   refine A0i (A6f sh ho1) fun ks hs'=>C3f (Geo.sub l0 l0' hs' hg) fun par ps wd ht q _=>?_
   simp only [Sh.Geo.e0]at q
   refine A6d q fun w'' g'' _ y2 _=>?_
   try clear q
   rw [z1]at g'';cases g''
   have nd:=C4h hs' g.nd
   simp [Sh.all.e0,List.nodup_cons]at nd
   exact C9w (by rw [y2];exact B6h nd.2) z2
  ·rw [if_neg e]
   refine A1f w' hw' ⟨rfl,rfl,?_,rfl,rfl⟩
   have nk:n∉w'.kids:=fun q=>by
    refine A0i (A6f sh ho1) fun ks hs'=>C3f (Geo.sub l0 l0' hs' hg) fun par ps wd ht q' _=>?_
    have q'':=q'
    simp only [Sh.Geo.e0]at q''
    refine A6d q'' fun w'' g'' _ y2 _=>?_
    try clear q''
    rw [hw']at g'';cases g''
    rw [y2]at q
    refine A0e (List.mem_map.mp q) fun x hx ex=>B7z (Geo.kid l0 l0' q' hx) fun wp' wk' s1 s2 s3 s4 s5 s6=>?_
    rw [ex,h2]at s3;cases s3
    exact e ⟨by rw [s4];exact Int.ne_of_gt kpos,s4.symm⟩
   conv=>lhs;rw [←List.map_id w'.kids]
   refine List.map_congr_left fun y hy=>?_
   rw [if_neg (fun e:y=n=>nk (by simp only [←e];exact hy))];rfl
 ·rw [r7,C0l (q':=t.last+1) (fun ks=>rfl)]
  refine A2u (Geo.num_get hg) fun wr a1 a2 _=>?_
  by_cases q:w.parent=0
  ·refine (if_pos q).trans ?_
   rcases C9c (A5f hn)with e| ⟨p,ks,k,hs',hk2,e⟩
   ·exact (if_pos e.symm).symm
   ·refine C3f (Geo.sub l0 l0' hs' hg) fun par ps wd ht q' _=>B7z (Geo.kid l0 l0' q' hk2) fun wp' wk' s1 s2 s3 s4 s5 s6=>?_
    rw [e,h2]at s3;cases s3
    have:=(g.bound p (hs'.all p (.head _))).1
    lia
  ·rw [if_neg q,if_neg (fun e=>q (by rw [e,h2]at a1;cases a1;exact a2))];exact g.root
section
variable {Q:AV→St→Prop}
theorem C9b{sh':Sh}{t' T5:Tree}{ns:List Int}{a m p:Int}{ks:List Sh}{wp5 wn5:Win}(sp:SameP ns T5 t')(hpos:sh'.Pos t' 0 0)(hsub:Sub (.mk p (A0o n m ks)) sh')(hin:n∈ks.map Sh.num)(gp:T5.get p=some wp5)(ha:a=if wp5.sort=2 then 0 else 1)(gn:T5.get n=some wn5)(h0:0<wn5.sz a):
  ∀wn wm,t'.get n=some wn→t'.get m=some wm→if a=0 then wn.left<wm.left∧wm.top=wn.top else wn.top<wm.top∧wm.left=wn.left:=by
 intro wn wm e1 e2
 refine B5w (Pos.sub hsub hpos) fun l tp hp=>?_
 simp only [Sh.Pos.e0]at hp
 refine A6d hp fun wp' g' _ _ hp=>A0e (sp.same gp) fun wp'' g'' gx=>?_
 rw [g']at g'';cases g''
 refine B5v (B2g ks _ _ hin hp) fun wn' wm' q1 q2 q3 q4=>?_
 rw [e1]at q1;cases q1
 rw [e2]at q2;cases q2
 have es:wp'.sort=wp5.sort:=gx.g.sort
 have wd:t'.wd n=wn5.width:=by refine((sp.wdht n).1).trans ?_;simp [Tree.wd,gn]
 have ht:t'.ht n=wn5.height:=by refine((sp.wdht n).2).trans ?_;simp [Tree.ht,gn]
 rw [es,wd]at q3;rw [es,ht]at q4
 by_cases q:wp5.sort=2
 ·rw [if_pos q]at ha;subst ha
  have:(wp5.sort == 2)=true:=by simpa using q
  rw [this,if_pos rfl]at q3 q4
  have:wn5.sz 0=wn5.width:=rfl
  refine(if_pos rfl).mpr ?_;exact⟨by lia,q4⟩
 ·rw [if_neg q]at ha;subst ha
  have:(wp5.sort == 2)=false:=by simpa using q
  rw [this]at q3 q4
  simp [Bool.false_eq_true,if_false]at q3 q4
  have:wn5.sz 1=wn5.height:=rfl
  refine(if_neg (by decide)).mpr ?_;exact⟨by lia,q3⟩
theorem B0k{a v:Int}:SameS w (w.setSize a v):=by unfold Win.setSize;split <;> exact⟨rfl,rfl,rfl,rfl,rfl,rfl,rfl,rfl⟩
theorem B2y{p a v:Int}:(A5d w p a v).ear=w.ear∧(A5d w p a v).lat= .lst []:=by
 unfold A5d Win.setSize
 constructor
 ·rfl
 ·split <;> split <;> rfl
theorem C0i{ns:List Int}{t t':Tree}(h:SameP ns t t'){k:Int}{w':Win}(hk:t'.get k=some w'): ∃w,t.get k=some w∧C3m w w':=by
 cases e:t.get k with
 |none=>obtain ⟨l,tp,e'⟩:=h.get k;rw [e,hk]at e';exact k2 e'
 |some w=>obtain ⟨w'',q1,q2⟩:=h.same e;rw [hk]at q1;cases q1;exact⟨w,rfl,q2⟩
theorem B6c{a v:Int}:(w.setSize a v).sz a=v:=by unfold Win.setSize Win.sz;split <;> rfl
theorem C0o{s sh:Sh}(h:Sub s sh):s.all.length≤sh.all.length:=by
 induction h with
 |refl=>exact Nat.le_refl _
 | @step k n ks hk _ ih=>
  have: ∀l:List Sh,k∈l→k.all.length≤(Sh.allL l).length:=by
   intro l
   induction l with
   |nil=>intro h;exact k3 h
   |cons x l ih=>
    intro h;simp only [Sh.allL.e0,Sh.allL.e1,List.length_append];rcases List.mem_cons.mp h with rfl|h
    ·exact Nat.le_add_right _ _
    ·have:=ih h;lia
  have:=this ks hk
  simp only [Sh.all.e0,List.length_cons];lia
theorem A9b(G:PG S){sh:Sh}{a:Int}(g:Good sh t)(hn:n∈sh.leaves)(hN:sh.all.length≤800)(ha01:a=0∨a=1)(hpl:A2v t)(h2:t.get n=some w)(hb:t.least a≤w.sz a- (w.sz a).fdiv 2∧t.least a≤(w.sz a).fdiv 2)
  (h: ∀m sh' t',SplitR sh t n a m sh' t'→Q (.int m) (St.mk (some t') dk (none) rl tb fid nam loc tmp cfid cnm cel glb)):WC S (d+5) r env 281 [.ref .tree,.int n,.none,.int a,.bool false] (St.mk (some t) dk (none) rl tb fid nam loc tmp cfid cnm cel glb) Q X:=by
 refine A5l (g.leaf hn) fun w' q1 h0 hk l3 l2 y9a=>A0f y9a fun lW lH=>?_
 rw [h2]at q1;cases q1
 refine A0f (hpl n w h2) fun ear lat=>A1x g.geo fun W H hg hW hH=>?_
 have hlen:=g.len
 have hm:=g.fresh (k:=t.last+1) (Int.le_refl _)
 have hm2:=g.fresh (k:=t.last+1+1) (by exact Z29)
 have hw:0≤w.sz a∧w.sz a≤1000000:=by rcases ha01 with rfl|rfl <;> simp [Win.sz] <;> lia
 have hsum:(w.sz a- (w.sz a).fdiv 2)+ (w.sz a).fdiv 2=w.sz a:=by lia
 have bnd:3≤(if a=0 then(w.sz a).fdiv 2 else w.width)∧2≤(if a=0 then w.height else(w.sz a).fdiv 2)∧3≤(if a=0 then w.sz a- (w.sz a).fdiv 2 else w.width)∧2≤(if a=0 then w.height else w.sz a- (w.sz a).fdiv 2):=by
  refine A0f hb fun x1 x2=>?_
  try clear hb
  unfold Tree.least at x1 x2
  rw [g.lw,g.lh]at x1 x2
  rcases ha01 with rfl|rfl <;> simp at x1 x2 ⊢ <;> lia
 refine C3g bnd fun b1 b2 b3 b4=>?_
 try clear bnd
 have old0:0<w.sz a- (w.sz a).fdiv 2:=by
  have:=hb.1;unfold Tree.least at this;rw [g.lw,g.lh]at this;split at this <;> omega
 generalize hold:w.sz a- (w.sz a).fdiv 2=old at *
 generalize hnew:(w.sz a).fdiv 2=new at *
 by_cases hup:w.parent≠0∧ ∃wp,t.get w.parent=some wp∧(if wp.sort=2 then(0:Int)else 1)=a
 ·refine A0f hup fun hp y9a=>?_
  try clear hup
  refine A0e y9a fun wp h3 ha=>B7z (g.parent hn h2 hp) fun wp' ks z1 hsub z2 z3 z4 y9a=>A1a y9a fun z5 z6 z7=>?_
  rw [h3]at z1;cases z1
  have hgeo:=B9c (a:=a) (old:=old) (new:=new) g hn h2 h0 hk ha rfl hp h3 hsub z2 z3 z5 z6 b1 b2 b3 b4 hsum hg
  generalize hF:(fun s:Sh=>Sh.mk s.num (A0o n (t.last+1) s.kids))=F at hgeo
  have Fmk: ∀q ks,F (.mk q ks)= .mk q (A0o n (t.last+1) ks):=fun q ks=>by rw [←hF];rfl
  have pin:w.parent∈sh.all:=hsub.all _ (.head _)
  have hall:List.Perm (sh.upd w.parent F).all ([t.last+1]++sh.all):=C0m sh (fun ks _=>by
   rw [Fmk];simp only [Sh.all.e0];exact((B2h ks).cons w.parent).trans (List.Perm.swap _ _ _)) g.nd pin
  have uq: ∀ks',Sub (.mk w.parent ks') sh→ks'≠ []:=fun ks' hs=>by
   obtain ⟨par,ps,wd,ht,q,_⟩:=Geo.sub (by rw [g.lw];decide) (by rw [g.lh];decide) hs hg
   simp only [Sh.Geo.e0]at q
   refine A6d q fun w'' g'' _ y2 _=>?_
   try clear q
   rw [h3]at g'';cases g''
   rintro rfl
   rw [z2]at y2
   simp at y2;subst y2;exact k3 z3
  have hlv:List.Perm (sh.upd w.parent F).leaves ([t.last+1]++sh.leaves):=B1m sh (fun ks' hs=>by
   rw [Fmk,Sh.leaves_cons (uq ks' hs),Sh.leaves_cons (fun e=>by have:=congrArg List.length e;rw [A7f]at this;contradiction)];exact A8x ks') g.nd pin
  have hlk:wp.kids.length≤900:=by
   simp only [z2,List.length_map]
   have:=Sh.len_le ks
   have:=C0o hsub
   simp only [Sh.all.e0,List.length_cons]at this;lia
  have hnum:t.root=(sh.upd w.parent F).num:=by rw [C0l (q':=w.parent) (fun ks=>by rw [Fmk];rfl),g.root];split <;> simp_all
  refine C3k (w:=w) (l:= []) (sh':=sh.upd w.parent F) G g.stg g.knd h2 h0 hk hw (by rw [hnew,hold];exact hb) hp h3 ha z6 (by rw [z2];exact z3) hlk z7 (by lia) hm (by lia) ear (Nat.zero_le _) hnum (by rw [hnew,hold];exact Geo.rep _ _ _ _ _ hgeo) (by rw [hall.length_eq];simp;exact Nat.le_trans hN (by decide)) ?_
  rw [hnew,hold]
  intro t' sp pr
  have gt:=A9h (a:=a) (old:=old) (new:=new) h2 h3 z6 hm
  have good:=B4h (ex:= [t.last+1]) (m:=t.last+1) (T5:=A1k t n w.parent a old new w wp) g hall hlv hnum B3o ⟨by simp,fun k hk=>by simp at hk;subst hk;exact⟨by exact Int.le_refl _,Int.le_refl _⟩,by show t.last≤t.last+1;lia⟩ hgeo hW hH ⟨rfl,rfl,rfl,rfl⟩ sp pr
  have hnm:n≠t.last+1:=fun e=>by rw [←e,h2]at hm;exact k2 hm
  have hpm:w.parent≠t.last+1:=fun e=>by rw [←e,h3]at hm;exact k2 hm
  refine h (t.last+1) _ t' ⟨good,hlv,by rw [hall.length_eq];simp,fun q=>by have:=(g.bound _ q).2;lia,fun k hk w0 hw0=>?_,?_,sp.rest.2.2.2.2.2.1,fun k w' hw'=>?_⟩
  ·have km:k≠t.last+1:=fun e=>by rw [e,hm]at hw0;exact k1 hw0
   have kp:k≠w.parent:=fun e=>by
    refine A2u (g.leaf hk) fun wx x1 x2 _=>?_
    rw [e,h3]at x1;cases x1;lia
   have: ∃w5,(A1k t n w.parent a old new w wp).get k=some w5∧SameS w0 w5:=by
    rw [gt,if_neg km]
    by_cases e:k=n
    ·subst e;rw [h2]at hw0;cases hw0;rw [if_pos rfl];exact⟨_,rfl,B0k⟩
    ·rw [if_neg e,if_neg kp];exact⟨_,hw0,⟨rfl,rfl,rfl,rfl,rfl,rfl,rfl,rfl⟩⟩
   refine A0e this fun w5 y1 y2=>?_
   try clear this
   refine A0e (sp.same y1) fun w6 y3 y4=>?_
   exact A1f w6 y3 (y2.trans y4.s)
  ·refine C9b (ks:=ks) (p:=w.parent) sp good.pos (by have:=C4f (F:=F) hsub g.nd;rwa [Fmk]at this) z3 (wp5:=(A7q wp n (t.last+1)).s_ver (wp.ver+1)) (by rw [gt,if_neg hpm,if_neg z6,if_pos rfl]) ha.symm (wn5:=w.setSize a old) (by rw [gt,if_neg hnm,if_pos rfl]) (by rw [B6c];exact old0)
  ·refine A0e (C0i sp hw') fun w5 y1 y2=>?_
   rw [y2.s.ear,y2.s.lat]
   rw [gt]at y1
   split at y1
   ·cases y1;rw [B2y.1,B2y.2];exact⟨ear,rfl⟩
   ·split at y1
    ·cases y1;rw [B0k.ear,B0k.lat];exact⟨ear,lat⟩
    ·split at y1
     ·cases y1;exact⟨(hpl _ _ h3).1,(hpl _ _ h3).2⟩
     ·exact hpl k w5 y1
 ·obtain ⟨wp,h3⟩: ∃wp,w.parent≠0→t.get w.parent=some wp∧n∈wp.kids∧(if wp.sort=2 then(0:Int)else 1)≠a∧w.parent≠n∧(wp.sort=1∨wp.sort=2)∧wp.kids.length≤1000:=by
   by_cases hp:w.parent=0
   ·exact ⟨w,fun q=>absurd hp q⟩
   ·refine B7z (g.parent hn h2 hp) fun wp ks z1 hsub z2 z3 z4 y9a=>A1a y9a fun z5 z6 z7=>⟨wp,fun _=>⟨z1,by rw [z2];exact z3,fun e=>hup ⟨hp,wp,z1,e⟩,z6,z5,?_⟩⟩
    have h4:=C0o hsub
    have:=Sh.len_le ks
    simp only [Sh.all.e0,List.length_cons]at h4
    simp only [z2,List.length_map];lia
  generalize hso:(if a=0 then(2:Int)else 1)=so
  generalize hmm:t.last+1=m at *
  generalize hT1:A8p t n so m w wp=T1
  refine A0f (B6v (a:=a) (old:=old) (new:=new) (wp:=wp) g hn h2 h0 hk hmm.symm hso.symm hT1.symm ha01 (fun q=>⟨(h3 q).1,(h3 q).2.1,(h3 q).2.2.1,(h3 q).2.2.2.1,(h3 q).2.2.2.2.1⟩) b1 b2 b3 b4 hsum hg) fun hgeo hroot=>?_
  have cg:=B4s (so:=so) h2 (fun q=>⟨(h3 q).1,(h3 q).2.2.2.1⟩) hm
  have ck:=B6p (t:=t) (n:=n) (w:=w) (so:=so) (m:=m) (wp:=wp)
  have cr:=B1x (t:=t) (n:=n) (w:=w) (so:=so) (m:=m) (wp:=wp)
  rw [hT1]at cg cr ck
  have hne:n≠m:=fun e=>by rw [e,hm]at h2;exact k1 h2
  have hne2:n≠m+1:=fun e=>by rw [e,hm2]at h2;exact k1 h2
  have c1:T1.get n=some (w.s_parent m):=by rw [cg,if_neg hne,if_pos rfl]
  have c2:T1.get m=some (A5e w n so m):=by rw [cg,if_pos rfl]
  have c3:T1.get (T1.last+1)=none:=by
   rw [cr.1,cg,if_neg (by lia),if_neg (Ne.symm hne2),if_neg (fun q:w.parent≠0∧m+1=w.parent=>by have:=(h3 q.1).1;rw [←q.2,hm2]at this;exact k1 this)];exact hm2
  have gt:=A9h (a:=a) (old:=old) (new:=new) c1 c2 (Ne.symm hne) c3
  rw [cr.1]at gt
  generalize hF:(fun s:Sh=>Sh.mk m [s,.mk (m+1) []])=F at hgeo hroot
  have Fs: ∀s,F s= .mk m [s,.mk (m+1) []]:=fun s=>by rw [←hF]
  have hall:List.Perm (sh.upd n F).all ([m,m+1]++sh.all):=C0m sh (fun ks _=>by
   rw [Fs]
   have e:(Sh.mk m [.mk n ks,.mk (m+1) []]).all=m::((Sh.mk n ks).all++ [m+1]):=by rfl
   simp only [e];exact(List.perm_append_comm (l₂:= [m+1])).cons m) g.nd (A5f hn)
  have hlv:List.Perm (sh.upd n F).leaves ([m+1]++sh.leaves):=B1m sh (fun ks _=>by
   rw [Fs]
   have e:(Sh.mk m [.mk n ks,.mk (m+1) []]).leaves=(Sh.mk n ks).leaves++ [m+1]:=by refine(Sh.leaves_cons (List.cons_ne_nil _ _)).trans ?_;rfl
   simp only [e];exact List.perm_append_comm) g.nd (A5f hn)
  refine C1n (w:=w) (l:= []) (sh':=sh.upd n F) (T1:=T1) (m:=m) (wp:=wp) G hmm.symm (by rw [hso,hT1]) g.stg g.knd h2 h0 hk hw (by rw [hnew,hold];exact hb) (fun q=>⟨(h3 q).1,(h3 q).2.1,(h3 q).2.2.2.2.2,(h3 q).2.2.1,(h3 q).2.2.2.1⟩) hm hm2 (by lia) ear (Nat.zero_le _) ?_ (by simp only [hnew,hold,hso];exact Geo.rep _ _ _ _ _ hgeo) (by rw [hall.length_eq];simp;exact Nat.le_trans hN (by decide)) ?_
  ·refine Eq.trans ?_ (hroot).symm.symm;rfl
  simp only [hnew,hold,hso]
  intro t' sp pr
  have good:=B4h (ex:= [m,m+1]) (m:=m+1) (T5:=A1k T1 n m a old new (w.s_parent m) (A5e w n so m)) g hall hlv hroot (by simp only [B3o,ck,cr.1,List.append_assoc];rfl) ⟨by simp;exact Z33,fun k hk=>by
    have:k=m∨k=m+1:=by simpa using hk
    have e:(A1k T1 n m a old new (w.s_parent m) (A5e w n so m)).last=T1.last+1:=rfl
    simp only [e,cr.1];lia,by
    have e:(A1k T1 n m a old new (w.s_parent m) (A5e w n so m)).last=T1.last+1:=rfl
    simp only [e,cr.1];lia⟩ hgeo hW hH ⟨cr.2.2.1,cr.2.2.2.1,cr.2.2.2.2.1,cr.2.2.2.2.2.1⟩ sp pr
  have T5s: ∀k w0,k≠m→k≠m+1→t.get k=some w0→ ∃w5,(A1k T1 n m a old new (w.s_parent m) (A5e w n so m)).get k=some w5∧SameS w0 w5:=fun k w0 k1 k2 hw0=>by
   simp only [gt,if_neg k2]
   by_cases e:k=n
   ·subst e;rw [h2]at hw0;cases hw0;rw [if_pos rfl]
    exact A1f _ rfl (SameS.trans (b:=w.s_parent m) ⟨rfl,rfl,rfl,rfl,rfl,rfl,rfl,rfl⟩ B0k)
   ·rw [if_neg e,if_neg k1,cg,if_neg k1,if_neg e]
    split
    ·rename_i q
     refine A0f q fun q1 y9a=>?_
     try clear q
     obtain rfl:=y9a
     rw [(h3 q1).1]at hw0;cases hw0
     exact A1f _ rfl ⟨rfl,rfl,rfl,rfl,rfl,rfl,rfl,rfl⟩
    ·exact A1f _ hw0 ⟨rfl,rfl,rfl,rfl,rfl,rfl,rfl,rfl⟩
  refine h (m+1) _ t' ⟨good,hlv,by rw [hall.length_eq];exact Nat.le_refl _,fun q=>by have:=(g.bound _ q).2;lia,fun k hk w0 hw0=>?_,?_,sp.rest.2.2.2.2.2.1.trans cr.2.2.2.2.1,fun k w' hw'=>?_⟩
  ·obtain ⟨w5,y1,y2⟩:=T5s k w0 (fun e=>by rw [e,hm]at hw0;exact k1 hw0) (fun e=>by rw [e,hm2]at hw0;exact k1 hw0) hw0
   refine A0e (sp.same y1) fun w6 y3 y4=>?_
   exact A1f w6 y3 (y2.trans y4.s)
  ·have hs1:=C4f (F:=F) (A6n sh hn) g.nd
   rw [Fs]at hs1
   have e1:([.mk n [],.mk (m+1) []]:List Sh)=A0o n (m+1) [.mk n []]:=by simp [A0o.e0,A0o.e1,Sh.num]
   rw [e1]at hs1
   refine C9b (ks:= [.mk n []]) (p:=m) sp good.pos hs1 (.head _) (wp5:=(A7q (A5e w n so m) n (m+1)).s_ver ((A5e w n so m).ver+1)) (by rw [gt,if_neg (by exact Z33),if_neg (Ne.symm hne),if_pos rfl]) ?_ (wn5:=(w.s_parent m).setSize a old) (by rw [gt,if_neg hne2,if_pos rfl]) (by rw [B6c];exact old0)
   show a=if so=2 then 0 else 1
   rcases ha01 with rfl|rfl
   ·rw [if_pos rfl]at hso;rw [←hso];rfl
   ·rw [if_neg (by decide)]at hso;rw [←hso];rfl
  ·refine A0e (C0i sp hw') fun w5 y1 y2=>?_
   rw [y2.s.ear,y2.s.lat]
   by_cases k2:k=m+1
   ·rw [gt,if_pos k2]at y1;cases y1;rw [B2y.1,B2y.2];exact⟨ear,rfl⟩
   ·by_cases k1:k=m
    ·rw [gt,if_neg k2,if_neg (fun e:k=n=>hne (e▸k1)),if_pos k1]at y1;cases y1;exact⟨rfl,rfl⟩
    ·cases hk0:t.get k with
     |none=>
      rw [gt,if_neg k2,if_neg (fun e:k=n=>by rw [e,h2]at hk0;contradiction),if_neg k1,cg,if_neg k1,if_neg (fun e:k=n=>by rw [e,h2]at hk0;contradiction),if_neg (fun q:w.parent≠0∧k=w.parent=>by rw [q.2,(h3 q.1).1]at hk0;contradiction),hk0]at y1
      exact k13 y1 rfl
     |some w0=>
      refine A0e (T5s k w0 k1 k2 hk0) fun w5' y3 y4=>?_
      rw [y1]at y3;cases y3
      rw [y4.ear,y4.lat];exact hpl k w0 hk0
end
section
variable {Q:AV→St→Prop}
noncomputable def B4r(w:Win)(rr cc:Int):Option Int:=if w.ded=true then none else if(if 4>rr then 4 else rr)≤w.height then some 1 else if(if 6>cc then 6 else cc)≤w.width then some 0 else none
theorem C5x{w:Win}{rr cc a:Int}(h:B4r w rr cc=some a):(a=0∨a=1)∧(a=1→4≤w.height)∧(a=0→6≤w.width):=by
 unfold B4r at h
 by_cases c1:w.ded=true
 ·rw [if_pos c1]at h;exact k1 h
 rw [if_neg c1]at h
 by_cases c2:(if 4>rr then 4 else rr)≤w.height
 ·rw [if_pos c2]at h;cases h
  refine A4x (.inr rfl) (fun _=>?_) (fun h=>absurd h (by decide))
  split at c2 <;> lia
 rw [if_neg c2]at h
 by_cases c3:(if 6>cc then 6 else cc)≤w.width
 ·rw [if_pos c3]at h;cases h
  refine A4x (.inl rfl) (fun h=>absurd h (by decide)) (fun _=>?_)
  split at c3 <;> lia
 ·rw [if_neg c3]at h;exact k1 h
theorem B0j(G:PG S)(E:EK S){sh:Sh}{rr cc:Int}(g:Good sh t)(hn:n∈sh.leaves)(hN:sh.all.length≤800)(hpl:A2v t)(h2:t.get n=some w)(hz:B4r w rr cc=none→Q (.int 0) (St.mk (some t) dk (none) rl tb fid nam loc tmp cfid cnm cel glb))
  (h: ∀a,B4r w rr cc=some a→ ∀m sh' t',SplitR sh t n a m sh' t'→Q (.int m) (St.mk (some t') dk (none) rl tb fid nam loc tmp cfid cnm cel glb)):WC S (d+7) r env 349 [.ref .tree,.int n,.rul rr cc] (St.mk (some t) dk (none) rl tb fid nam loc tmp cfid cnm cel glb) Q X:=by
 refine B9v G fun L=>?_
 have h5:=Tree.s5 g.stg
 refine A5l (g.leaf hn) fun w' q1 h0 hk l3 l2 y9a=>A0f y9a fun lW lH=>?_
 rw [h2]at q1;cases q1
 have hb: ∀a,B4r w rr cc=some a→t.least a≤w.sz a- (w.sz a).fdiv 2∧t.least a≤(w.sz a).fdiv 2:=fun a ha=>by
  refine A1a (C5x ha) fun q1 q2 q3=>?_
  unfold Tree.least Win.sz
  rw [g.lw,g.lh,Int.fdiv_eq_ediv_of_nonneg _ (by decide)]
  rcases q1 with rfl|rfl
  ·have:=q3 rfl;simp;lia
  ·have:=q2 rfl;simp;lia
 have hlh:=g.lh
 have hlw:=g.lw
 refine A6g rfl ?_
 intro K9
 refine A6y rfl .head (A5c G (by assumption) rfl rfl (A2s (ix 1 rfl rfl) (C6b G h5 h2 h0 (A0k (.tail (.tail (.tail .head))) (A4i ?_)))))
 intro K9
 refine A7k rfl (A2c (ix 3 rfl rfl) (A1m rfl (by assumption) (isb (⟨fun hb=>?_,fun hd=>?_⟩))))
 ·refine B1p (A0w (tri ?_))
  exact hz (by unfold B4r;exact(if_pos hb))
 ·have hd': ¬w.ded=true:=by simp [hd]
  refine A0x (A0a (A4i ?_))
  intro K9
  refine A6x rfl (ix 3 rfl rfl) (A3d rfl (by assumption) (C4r G List.mem_cons_self rfl rfl (A0b rfl (A2c (ix 2 rfl rfl) (D2g (by assumption) (A0b rfl (A0t (A0w (A2c .head (A4o rfl (by assumption) (B7f (B0p (by decide) (by decide)) ?_)))))))))))
  simp only [hlh,show(2:Int)*2=4 from rfl]
  refine A0g (C2g (D3p (isb (⟨fun hq=>?_,fun hq=>?_⟩))))
  ·have hq:(if 4>rr then 4 else rr)≤w.height:=of_decide_eq_true hq
   have hdir:B4r w rr cc=some 1:=by unfold B4r;exact((if_neg hd').trans (if_pos hq))
   refine A0h ?_
   intro K9
   refine A0u (B6z G (mi 1 rfl) rfl rfl (A3j .head (ix 1 rfl rfl) (B8e G fun L'=>A9b G g hn hN (.inr rfl) hpl h2 (hb 1 hdir) fun m sh' t' hr=>⟨m,rfl,?_⟩)))
   refine A0m (tri ?_)
   exact h 1 hdir m sh' t' hr
  ·have hq: ¬(if 4>rr then 4 else rr)≤w.height:=of_decide_eq_false hq
   refine A0x (A0a (A4i ?_))
   intro K9
   refine A6x rfl (ix 3 rfl rfl) (A4p rfl (by assumption) (C4r G List.mem_cons_self rfl rfl (A0b rfl (A2c (ix 2 rfl rfl) (B9n (by assumption) (A0b rfl (A0t (A0w (A2c .head (A5g rfl (by assumption) (B7f (B0p (by decide) (by decide)) ?_)))))))))))
   simp only [hlw,show(2:Int)*3=6 from rfl]
   refine A0g (C2g (D3p (isb (⟨fun hq2=>?_,fun hq2=>?_⟩))))
   ·have hq2:(if 6>cc then 6 else cc)≤w.width:=of_decide_eq_true hq2
    have hdir:B4r w rr cc=some 0:=by unfold B4r;exact(((if_neg hd').trans (if_neg hq)).trans (if_pos hq2))
    refine A0h ?_
    intro K9
    refine A0u (B6y G (mi 2 rfl) rfl rfl (A3j .head (ix 1 rfl rfl) (B8d G fun L'=>A9b G g hn hN (.inl rfl) hpl h2 (hb 0 hdir) fun m sh' t' hr=>⟨m,rfl,?_⟩)))
    refine A0m (tri ?_)
    exact h 0 hdir m sh' t' hr
   ·have hq2: ¬(if 6>cc then 6 else cc)≤w.width:=of_decide_eq_false hq2
    refine A0x (A0a (B1p (A0w (A6c ?_))))
    exact hz (by unfold B4r;exact(((if_neg hd').trans (if_neg hq)).trans (if_neg hq2)))
end
section
variable {Q:AV→St→Prop}
theorem C0v{t:Tree}(l:List Int)(f:Int)(h0:f=0∨f∈l∨True)(hn: ∀n∈l,n≠0)(h:f≠0∨l≠ []):A0l t f l=f∧f≠0∨A0l t f l∈l
 :=by
 induction l generalizing f with
 |nil=>left;simp only [A0l.e0,A0l.e1];exact⟨trivial,h.resolve_right (fun q=>q rfl)⟩
 |cons n l ih=>
  simp only [A0l.e0,A0l.e1]
  have h1:=hn n (.head _)
  split
  ·rcases ih n (.inr (.inr trivial)) (fun k hk=>hn k (.tail _ hk)) (.inl h1)with⟨e,_⟩|e
   ·right;rw [e];exact .head _
   ·right;exact .tail _ e
  ·rename_i q
   have hf:f≠0:=fun e=>q (.inl e)
   rcases ih f (.inr (.inr trivial)) (fun k hk=>hn k (.tail _ hk)) (.inl hf)with⟨e,_⟩|e
   ·left;exact⟨e,hf⟩
   ·right;exact .tail _ e
theorem B1r{t:Tree}{l:List Int}(hn: ∀n∈l,n≠0)(h:l≠ []):A0l t 0 l∈l:=by
 rcases C0v (t:=t) l 0 (.inl rfl) hn (.inr h)with⟨_,e⟩|e
 ·exact absurd rfl e
 ·exact e
theorem A8w{t:Tree}: ∀(l:List Int) (f m:Int),A0q t f m l=f∨A0q t f m l∈l
 | [],f,m=> .inl rfl
 |n::l,f,m=>by
  simp only [A0q.e0,A0q.e1]
  split
  ·rcases A8w l n (t.area n)with e|e
   ·right;rw [e];exact .head _
   ·right;exact .tail _ e
  ·rcases A8w l f m with e|e
   ·left;exact e
   ·right;exact .tail _ e
theorem B4f{t:Tree}{l:List Int}(ha: ∀n∈l,0≤t.area n)(h:l≠ []):A0q t 0 (-1) l∈l:=by
 cases l with
 |nil=>exact absurd rfl h
 |cons n l=>
  simp only [A0q.e0,A0q.e1]
  rw [if_pos (by have:=ha n (.head _);assumption)]
  rcases A8w (t:=t) l n (t.area n)with e|e
  ·simp only [e];exact .head _
  ·exact .tail _ e
noncomputable def Tree.dir(t:Tree)(n rr cc:Int):Option Int:=match t.get n with
 |some w=>B4r w rr cc
 |none=>none
noncomputable def swF(t:Tree)(l:List Int)(rr cc:Int):Option (Int×Int):=
 match t.dir (A0q t 0 (-1) l) rr cc with
 |some x=>some (A0q t 0 (-1) l,x)
 |none=>match t.dir (A0l t 0 l) rr cc with
  |some x=>some (A0l t 0 l,x)
  |none=>if l.length=1 then(t.dir (l.headD 0) 0 cc).map (fun x=>(l.headD 0,x))else none
theorem SplitR.pos{sh sh':Sh}{t':Tree}{a m:Int}(h:SplitR sh t n a m sh' t'):m≠0:=by
 have:=(h.good.bound m (A5f (h.leaves.mem_iff.mpr (.head _)))).1
 exact Int.ne_of_gt this
theorem B1y(G:PG S)(E:EK S){sh:Sh}{rr cc:Int}(g:Good sh t)(hN:sh.all.length≤800)(hpl:A2v t)(hz:swF t sh.leaves rr cc=none→Q (.int 0) (St.mk (some t) dk (none) (none) tb fid nam loc tmp cfid cnm cel glb))
  (h: ∀n a,swF t sh.leaves rr cc=some (n,a)→n∈sh.leaves→ ∀m sh' t',SplitR sh t n a m sh' t'→Q (.int m) (St.mk (some t') dk (none) (none) tb fid nam loc tmp cfid cnm cel glb)):WC S (d+8) r env 356 [.ref .tree,.rul rr cc] (St.mk (some t) dk (none) (none) tb fid nam loc tmp cfid cnm cel glb) Q X:=by
 refine B0x G fun L=>?_
 have h5:=Tree.s5 g.stg
 have hleaf: ∀n∈sh.leaves,t.Has n:=fun n hn=>let ⟨w,e,_⟩:=g.leaf hn;⟨w,e⟩
 have hleafW: ∀n∈sh.leaves,t.HasW n:=fun n hn=>let ⟨w,e,_,_,e1,_,e2,_⟩:=g.leaf hn;⟨w,e,by exact Int.le_trans (by decide) e1,e2⟩
 have hne:sh.leaves≠ []:=List.ne_nil_of_mem g.sel
 have hnz: ∀n∈sh.leaves,n≠0:=fun n hn=>by have:=(g.bound n (A5f hn)).1;exact Int.ne_of_gt this
 have hll:sh.leaves.length≤1000:=Nat.le_trans (Sh.leaves_le sh) (by exact Nat.le_trans hN (by decide))
 have har: ∀n∈sh.leaves,0≤t.area n:=fun n hn=>by
  refine A5l (g.leaf hn) fun w e _ _ e1 e2 _=>?_
  simp only [Tree.area,e,Option.map_some,Option.getD_some]
  exact Int.mul_nonneg (by exact Int.le_trans (by decide) e1) (by exact Int.le_trans (by decide) e2)
 have m1:=B4f har hne
 have m2:=B1r (t:=t) hnz hne
 refine A0e (g.leaf m1) fun wa ga _=>A0e (g.leaf m2) fun wb gb _=>?_
 have da:t.dir (A0q t 0 (-1) sh.leaves) rr cc=B4r wa rr cc:=by simp [Tree.dir,ga]
 have db:t.dir (A0l t 0 sh.leaves) rr cc=B4r wb rr cc:=by simp [Tree.dir,gb]
 unfold swF at hz h
 rw [da,db]at hz h
 refine A6g rfl ?_
 intro K9
 refine A2x G List.mem_cons_self rfl rfl (A2s .head (A3a G g.stg g.root g.rep (by exact Nat.le_trans hN (by decide)) (A0k (.tail (.tail .head)) (A0h ?_))))
 intro K9
 refine B1l (fun _=>rfl) (A0z (A0b rfl (B5j G (mi 1 rfl) rfl rfl (A3j .head (ix 2 rfl rfl) (B5y G h5 hleafW (A0b rfl (B0m G (mi 2 rfl) rfl rfl (A3j .head (ix 2 rfl rfl) (B1d G h5 hleaf (A0g (⟨Nat.le_of_ble_eq_true rfl,?_⟩)))))))))))
 refine D5j ?_
 generalize A0q t 0 (-1) sh.leaves=na at *
 generalize A0l t 0 sh.leaves=nb at *
 refine A0k (.tail (.tail (.tail .head))) (A0h ?_)
 intro K9
 refine A5x rfl (A9y G (mi 3 rfl) rfl rfl (A4y .head (A3j (ix 3 rfl rfl) (ix 1 rfl rfl) (B0j G E g m1 hN hpl ga (fun hd=>?_) fun a hd m sh' t' hr=>?_))))
 ·rw [hd]at hz h
  refine A0k (.tail (.tail (.tail (.tail .head)))) (A0a (A4i ?_))
  intro K9
  refine A6e rfl (ix 4 rfl rfl) (A0w (neb (⟨fun hb=>by exact k4 hb,fun _=>?_⟩)))
  refine A0x (A5u (A0a (A0k (.tail (.tail (.tail .head))) (A0h ?_))))
  intro K9
  refine A5x rfl (A9y G (mi 3 rfl) rfl rfl (A4y .head (A3j (ix 3 rfl rfl) (ix 1 rfl rfl) (B0j G E g m2 hN hpl gb (fun hd=>?_) fun a hd m sh' t' hr=>?_))))
  ·rw [hd]at hz h
   refine A0k (.tail (.tail (.tail (.tail .head)))) (A0a (A4i ?_))
   intro K9
   refine A6e rfl (ix 4 rfl rfl) (A0w (neb (⟨fun hb=>by exact k4 hb,fun _=>?_⟩)))
   refine A0x (A5u (A0a ?_))
   show W _ _ _ _ _ _ _ _ _
   refine A4i ?_
   intro K9
   refine A3k rfl (B2m G (mi 4 rfl) rfl rfl (A2s (ix 2 rfl rfl) (A9u (l:=sh.leaves.map .int) A1g (by rw [List.length_map];exact Nat.le_trans hll (by decide)) (A0w (eqb (⟨fun hb=>?_,fun hb=>?_⟩))))))
   ·have h1:sh.leaves.length=1:=by have:=of_decide_eq_true hb;simp at this;exact Int.ofNat.inj this
    obtain ⟨x,hx⟩: ∃x,sh.leaves= [x]:=List.length_eq_one_iff.mp h1
    have hxm:x∈sh.leaves:=by rw [hx];exact .head _
    refine A0e (g.leaf hxm) fun wx gx _=>?_
    have dx:t.dir (sh.leaves.headD 0) 0 cc=B4r wx 0 cc:=by rw [hx];simp [Tree.dir,gx]
    have ehd:sh.leaves.headD 0=x:=by rw [hx];rfl
    rw [if_pos h1,dx,ehd]at hz h
    refine A0h ?_
    intro K9
    refine A0u (A9y G (mi 3 rfl) rfl rfl (A4y .head (A0b rfl (A5i (ix 2 rfl rfl) (A6a (i:=0) (b:= .int x) A1g (by decide) (by decide) (by rw [hx];rfl) (fun _ _=>rfl) (A0b rfl (B7a G (mi 5 rfl) rfl rfl (C3p (A0b rfl (A2c (ix 1 rfl rfl) (B9n (by assumption) (A0g (B8i G E (A0g (B0j G E g hxm hN hpl gx (fun hd=>?_) fun a hd m sh' t' hr=>?_)))))))))))))))
    ·rw [hd]at hz
     refine A0m (tri ?_)
     exact hz rfl
    ·rw [hd]at h
     refine A0m (tri ?_)
     exact h x a rfl hxm m sh' t' hr
   ·have h1: ¬sh.leaves.length=1:=by have:=of_decide_eq_false hb;simp at this;exact Z34 this
    rw [if_neg h1]at hz
    refine A0x (A0a (B1p (A0w (A6c ?_))))
    exact hz rfl
  ·rw [hd]at h
   refine A0k (.tail (.tail (.tail (.tail .head)))) (A0a (A4i ?_))
   intro K9
   refine A6e rfl (ix 4 rfl rfl) (A0w (neb (⟨fun _=>?_,fun hb=>absurd hr.pos (by simpa using hb)⟩)))
   refine B1p (A0d (ix 4 rfl rfl) (A0m (A0m (tri ?_))))
   exact h nb a rfl m2 m sh' t' hr
 ·rw [hd]at h
  refine A0k (.tail (.tail (.tail (.tail .head)))) (A0a (A4i ?_))
  intro K9
  refine A6e rfl (ix 4 rfl rfl) (A0w (neb (⟨fun _=>?_,fun hb=>absurd hr.pos (by simpa using hb)⟩)))
  refine B1p (A0d (ix 4 rfl rfl) (A0m (A0m (tri ?_))))
  exact h na a rfl m1 m sh' t' hr
end
section
variable {Q:AV→St→Prop}
noncomputable def A3u(t:Tree)(l:List Int)(b:Int):List Int:=(l.filter fun n=>t.buf n == b).filter fun n=>n != t.sel
noncomputable def A7j(t:Tree)(l:List Int):Int:=if A0l t 0 (A5a t l)=0∧t.ded t.sel=false then t.sel else A0l t 0 (A5a t l)
theorem B2u(G:PG S)(E:EK S){sh:Sh}{b rr cc:Int}(g:Good sh t)(hN:sh.all.length≤800)(hpl:A2v t)
  (k1: ∀k rest,A3u t sh.leaves b=k::rest→Q (.int k) (St.mk (some t) dk (none) (none) tb fid nam loc tmp cfid cnm cel glb))
  (k2:A3u t sh.leaves b= []→ ∀n a,swF t sh.leaves rr cc=some (n,a)→n∈sh.leaves→ ∀m sh' t' w',SplitR sh t n a m sh' t'→t'.get m=some w'→Q (.int m) (St.mk (some (t'.put m ((w'.s_ear (.lst [])).show4 b 1 1 0))) dk (none) (none) tb fid nam loc tmp cfid cnm cel glb))
  (k3:A3u t sh.leaves b= []→swF t sh.leaves rr cc=none→A7j t sh.leaves≠0→ ∀w,t.get (A7j t sh.leaves)=some w→A7j t sh.leaves∈sh.leaves→w.ded=false→Q (.int (A7j t sh.leaves)) (St.mk (some (if w.buf=b then t else t.put (A7j t sh.leaves) (C4l w b))) dk (none) (none) tb fid nam loc tmp cfid cnm cel glb))
  (k4:A3u t sh.leaves b= []→swF t sh.leaves rr cc=none→A7j t sh.leaves=0→Q (.int 0) (St.mk (some t) dk (none) (none) tb fid nam loc tmp cfid cnm cel glb)):WC S (d+9) r env 367 [.ref .tree,.int b,.rul rr cc] (St.mk (some t) dk (none) (none) tb fid nam loc tmp cfid cnm cel glb) Q X:=by
 refine B1w G fun L=>?_
 have h5:=Tree.s5 g.stg
 have hleaf: ∀n∈sh.leaves,t.Has n:=fun n hn=>let ⟨w,e,_⟩:=g.leaf hn;⟨w,e⟩
 have hnz: ∀n∈sh.leaves,n≠0:=fun n hn=>by have:=(g.bound n (A5f hn)).1;exact Int.ne_of_gt this
 have hll:sh.leaves.length≤1000:=Nat.le_trans (Sh.leaves_le sh) (by exact Nat.le_trans hN (by decide))
 refine A0h ?_
 intro K9
 refine A4j (cl:= [("tree",L+1),("may_be_selected",L+2)]) (g:= []) (by with_unfolding_all rfl) (by with_unfolding_all rfl) rfl (by decide) (fun _=>rfl) (B9e G List.mem_cons_self rfl rfl (C2i .head (A2s .head (C0a G g.stg g.root g.rep (by exact Nat.le_trans hN (by decide)) hleaf (A6t (cnm':= ["tree","may_be_selected"]) (cel':= [some (.ref .tree),some (.bool false)]) 2 (fun n=>n != t.sel) .int (Nat.le_trans (List.length_filter_le _ _) (by exact Nat.le_trans hll (by decide))) rfl rfl ⟨by with_unfolding_all rfl,by decide,rfl,by decide,rfl,fun C=>⟨rfl,rfl,rfl,B2k ⟨by kernel_rfl,by rfl⟩,D1k ⟨by kernel_rfl,by rfl⟩ ⟨by kernel_rfl,by rfl⟩,C3r,by decide⟩,D1k (by kernel_rfl) (by kernel_rfl)⟩ ?_ ?_ ?_)))))
 ·intro C n hn
  have h7:=g.stg
  refine B6m (B5c (A7k rfl (A8v (ix 1 rfl rfl) (isb (⟨(fun h=>nomatch h),fun _=>?_⟩)))))
  refine B5c (A6e rfl .head (B6t .head (A1c rfl (by assumption) (neb (⟨fun hb=>⟨rfl,hb.symm⟩,fun hb=>?_⟩)))))
  refine A5y ?_
  exact⟨rfl,hb.symm⟩
 ·intro C n hn _
  refine B2t (A0d .head ?_)
  exact⟨rfl,rfl⟩
 ·show A9c _ _ (.lst ((A3u t sh.leaves b).map .int)) _
  have h7:=g.stg
  generalize hkn:A3u t sh.leaves b=kn at *
  refine A0k (.tail (.tail .head)) (A0a (A4i ?_))
  intro K9
  refine A6e rfl (ix 2 rfl rfl) (A5j (A0g (⟨Nat.le_of_ble_eq_true rfl,?_⟩)))
  refine A3t A1g (isb (⟨fun hb=>?_,fun hb=>?_⟩))
  ·cases kn with
   |nil=>exact k12 hb rfl
   |cons k rest=>
   refine B1p (A5i (ix 2 rfl rfl) (A6a (i:=0) (b:= .int k) A1g (by decide) (by decide) rfl (fun _ _=>rfl) (tri ?_)))
   exact k1 k rest rfl
  have hkn0:kn= []:=by cases kn with
   |nil=>rfl
   |cons k rest=>contradiction
  refine A0x (A0a (A4i ?_))
  intro K9
  refine A7l (A7k rfl (A8v (ix 1 rfl rfl) (isb (⟨(fun h=>nomatch h),fun _=>?_⟩))))
  refine⟨(fun h=>nomatch h),fun _=>?_⟩
  refine A0x (A6l ?_)
  intro K9
  refine A5x rfl (B1q G (mi 2 rfl) rfl rfl (C2i .head (A2s (ix 1 rfl rfl) (B1y G E g hN hpl (fun hz=>?_) fun n a hz hn m sh' t' hr=>?_))))
  ·refine A0k (.tail (.tail (.tail .head))) (A0a (A4i ?_))
   intro K9
   refine A6e rfl (ix 3 rfl rfl) (A0w (neb (⟨fun hb=>by exact k12 hb rfl,fun _=>?_⟩)))
   refine A0x (A6l ?_)
   intro K9
   refine A5x rfl (B0m G (mi 3 rfl) rfl rfl (C2i .head (A0b rfl (C6w G (mi 4 rfl) rfl rfl (A8k .head (C8t G g.stg g.root g.rep (by exact Nat.le_trans hN (by decide)) hleaf (A0g (B1d G h5 (fun n hn=>hleaf n (List.mem_filter.mp hn).1) ?_))))))))
   have hus: ∀n∈A5a t sh.leaves,n∈sh.leaves∧t.ded n=false∧n≠t.sel:=fun n hn=>by
    refine A0f (List.mem_filter.mp hn) fun h1 h2=>?_
    simp at h2;exact⟨h1,by simpa using h2.1,h2.2⟩
   subst hkn0
   unfold A7j at k3 k4
   refine A2u (g.leaf g.sel) fun ws gs s0 _=>?_
   have sded:t.ded t.sel=ws.ded:=by simp [Tree.ded,gs]
   rw [sded]at k3 k4
   generalize ho:A0l t 0 (A5a t sh.leaves)=o at k3 k4 ⊢
   refine A0k (.tail (.tail (.tail .head))) (A0a (A4i ?_))
   intro K9
   refine A7l (A6e rfl (ix 3 rfl rfl) (A0w (eqb (⟨fun hb=>?_,fun hb=>?_⟩))))
   ·have hb:o=0:=by simpa using hb
    refine A7l (C9s (A7k rfl (A3q rfl (A6i (B6t .head (A0s rfl (by assumption) (B6t .head (A1c rfl (by assumption) (A6q rfl (by assumption) (by assumption) (fun _ _=>rfl) (A1m rfl (by assumption) (isb (⟨fun hd=>?_,fun hd=>?_⟩))))))))))))
    ·have hd:ws.ded=false:=by simpa using hd
     rw [if_pos ⟨hb,hd⟩]at k3 k4
     have hf0:=hnz _ g.sel
     have hfm:=g.sel
     refine A6m (⟨fun _=>?_,(fun h=>nomatch h)⟩)
     refine A6g rfl ?_
     intro K9
     refine B6t .head (A1c rfl (by assumption) (A0k (.tail (.tail (.tail .head))) (A0x (A0a (A4i ?_)))))
     intro K9
     refine A6e rfl (ix 3 rfl rfl) (A0w (neb (⟨fun _=>?_,fun hb=>absurd hf0 (by simpa using hb)⟩)))
     refine A0h ?_
     intro K9
     refine A2g rfl rfl (B0l G (mi 1 rfl) rfl rfl (C2i .head (A3j (ix 3 rfl rfl) .head (B1c G h7 gs s0 hd (hpl _ _ gs).1 (hpl _ _ gs).2 (⟨trivial,?_⟩)))))
     refine A5u (A0a (B1p (A0d (ix 3 rfl rfl) (A6c ?_))))
     exact k3 rfl hz hf0 ws gs hfm hd
    ·have hd:ws.ded=true:=by simpa using hd
     rw [if_neg (fun q:o=0∧ws.ded=false=>by rw [hd]at q;exact absurd q.2 (by decide))]at k3 k4
     skip
     refine⟨(fun h=>nomatch h),fun _=>?_⟩
     refine A0x (A0a (A4i ?_))
     intro K9
     refine A6e rfl (ix 3 rfl rfl) (A0w (neb (⟨fun hq=>absurd hb (by simpa using hq),fun _=>?_⟩)))
     refine A0x (A0a (B1p (A0d (ix 3 rfl rfl) (A6c ?_))))
     rw [hb];exact k4 rfl hz hb
   ·have hb:o≠0:=by simpa using hb
    rw [if_neg (fun q:o=0∧ws.ded=false=>hb q.1)]at k3 k4
    have hom:o∈A5a t sh.leaves:=by
     simp only [←ho]
     refine B1r (fun n hn=>hnz n (hus n hn).1) (fun e=>hb ?_)
     simp only [←ho,e];rfl
    refine A1a (hus o hom) fun hfm hde _=>A2u (g.leaf hfm) fun wf gf f0 _=>?_
    have hd:wf.ded=false:=by simpa [Tree.ded,gf]using hde
    skip
    refine⟨(fun h=>nomatch h),fun _=>?_⟩
    refine A0x (A0a (A4i ?_))
    intro K9
    refine A6e rfl (ix 3 rfl rfl) (A0w (neb (⟨fun _=>?_,fun hq=>absurd hb (by simpa using hq)⟩)))
    refine A0h ?_
    intro K9
    refine A2g rfl rfl (B0l G (mi 1 rfl) rfl rfl (C2i .head (A3j (ix 3 rfl rfl) .head (B1c G h7 gf f0 hd (hpl _ _ gf).1 (hpl _ _ gf).2 (⟨trivial,?_⟩)))))
    refine A5u (A0a (B1p (A0d (ix 3 rfl rfl) (A6c ?_))))
    exact k3 rfl hz hb wf gf hfm hd
  ·refine A0e (hr.good.leaf (hr.leaves.mem_iff.mpr (.head _))) fun w' gm _=>?_
   have h7':=hr.good.stg
   refine A0k (.tail (.tail (.tail .head))) (A0a (A4i ?_))
   intro K9
   refine A6e rfl (ix 3 rfl rfl) (A0w (neb (⟨fun _=>?_,fun hb=>absurd hr.pos (by simpa using hb)⟩)))
   refine A0h ?_
   intro K9
   refine A4k rfl (A5j (A0g (⟨Nat.le_of_ble_eq_true rfl,?_⟩)))
   refine A9m .head (ix 3 rfl rfl) (Tree.s5 (by assumption)) (by assumption) rfl (B1e (by assumption) (A6l ?_))
   intro K9
   refine A2g rfl rfl (A6z rfl (A9m .head (ix 3 rfl rfl) (Tree.S5.put (Tree.s5 (by assumption))) (Tree.get_put_self (by assumption) _) rfl (A5z G (Tree.get_put_self (by assumption) _) rfl rfl (A0b rfl (A0z (A4y .head (C3p (C3p (A7h (⟨Nat.le_of_ble_eq_true rfl,?_⟩))))))))))
   refine A0g ?_
   have gm2:(t'.put m (w'.s_ear (.lst []))).get m=some (w'.s_ear (.lst [])):=Tree.get_put_self gm _
   refine C2e G gm2 ?_
   rw [A6p]
   refine⟨trivial,?_⟩
   refine A0a (B1p (A0d (ix 3 rfl rfl) (tri ?_)))
   exact k2 hkn0 n a hz hn m sh' t' w' hr gm
end
section
variable {Q:AV→St→Prop}
inductive DispR (sh:Sh) (t:Tree) (b rr cc:Int):Int→Sh→Tree→Prop
 |known {k:Int} {rest:List Int}:A3u t sh.leaves b=k::rest→DispR sh t b rr cc k sh t
 |split {n a m:Int} {sh':Sh} {t':Tree} {w':Win}:A3u t sh.leaves b= []→swF t sh.leaves rr cc=some (n,a)→n∈sh.leaves→SplitR sh t n a m sh' t'→t'.get m=some w'→DispR sh t b rr cc m sh' (t'.put m ((w'.s_ear (.lst [])).show4 b 1 1 0))
 |take {w:Win}:A3u t sh.leaves b= []→swF t sh.leaves rr cc=none→A7j t sh.leaves≠0→t.get (A7j t sh.leaves)=some w→A7j t sh.leaves∈sh.leaves→w.ded=false→DispR sh t b rr cc (A7j t sh.leaves) sh (if w.buf=b then t else t.put (A7j t sh.leaves) (C4l w b))
 |none:A3u t sh.leaves b= []→swF t sh.leaves rr cc=none→A7j t sh.leaves=0→DispR sh t b rr cc 0 sh t
theorem B4z(G:PG S)(E:EK S){sh:Sh}{b rr cc:Int}(g:Good sh t)(hN:sh.all.length≤800)(hpl:A2v t)(h: ∀f sh' t',DispR sh t b rr cc f sh' t'→Q (.int f) (St.mk (some t') dk (none) (none) tb fid nam loc tmp cfid cnm cel glb)):
  WC S (d+9) r env 367 [.ref .tree,.int b,.rul rr cc] (St.mk (some t) dk (none) (none) tb fid nam loc tmp cfid cnm cel glb) Q X:=
 B2u G E g hN hpl (fun k rest e=>h _ _ _ (.known e)) (fun e n a e2 hn m sh' t' w' hr hg=>h _ _ _ (.split e e2 hn hr hg)) (fun e e2 e3 w hg hm hd=>h _ _ _ (.take e e2 e3 hg hm hd)) (fun e e2 e3=>h _ _ _ (.none e e2 e3))
theorem Good.put{sh:Sh}{t:Tree}(g:Good sh t){n:Int}{w w':Win}(h2:t.get n=some w)(hg:SameG w w')(hl:w'.left=w.left)(ht:w'.top=w.top):Good sh (t.put n w'):=by
 have gg: ∀k w0,t.get k=some w0→ ∃w1,(t.put n w').get k=some w1∧SameG w0 w1∧w1.left=w0.left∧w1.top=w0.top:=fun k w0 hk=>by
  by_cases e:k=n
  ·subst e;rw [h2]at hk;cases hk;exact⟨w',Tree.get_put_self h2 _,hg,hl,ht⟩
  ·exact B7l w0 ((Tree.get_put_ne e _).trans hk) (SameG.refl _) rfl rfl
 have hwh: ∀k,(t.put n w').wd k=t.wd k∧(t.put n w').ht k=t.ht k:=fun k=>by
  by_cases e:k=n
  ·subst e;simp [Tree.wd,Tree.ht,h2,Tree.get_put_self h2,hg.width,hg.height]
  ·simp [Tree.wd,Tree.ht,Tree.get_put_ne e]
 refine A1x g.geo fun W H geo hW hH=>?_
 exact⟨g.stg,g.root,g.nd,by rw [Tree.keys_put];exact g.knd,fun k=>by rw [Tree.keys_put];exact g.keys k,g.bound,⟨W,H,Geo.congr (t:=t) (t':=t.put n w') rfl rfl _ _ _ _ _ (fun k _ w0 hk=>let ⟨w1,a,b,_⟩:=gg k w0 hk;⟨w1,a,b⟩) geo,hW,hH⟩,
  Pos.congr hwh _ _ _ (fun k _ w0 hk=>let ⟨w1,a,b,c,d⟩:=gg k w0 hk;⟨w1,a,c,d,b.sort⟩) g.pos,g.sel,g.lw,g.lh⟩
theorem Good.meta{sh:Sh}{t t':Tree}(g:Good sh t)(hw:t'.wins=t.wins)(h1:t'.last=t.last)(h2:t'.lw=t.lw)(h3:t'.lh=t.lh)(h4:t'.root=t.root)(h5:t'.sel∈sh.leaves)(h6:t'.stg=t.stg):Good sh t':=by
 have hg: ∀k,t'.get k=t.get k:=fun k=>by unfold Tree.get;exact congrArg _ (hw)
 refine A1x g.geo fun W H geo hW hH=>?_
 exact⟨h6.trans g.stg,h4.trans g.root,g.nd,by rw [hw];exact g.knd,fun k=>by rw [hw];exact g.keys k,by rw [h1];exact g.bound,⟨W,H,Geo.congr h2 h3 _ _ _ _ _ (fun k _ w0 hk=>⟨w0,by rw [hg];exact hk,SameG.refl _⟩) geo,hW,hH⟩,
  Pos.congr (fun k=>by simp [Tree.wd,Tree.ht,hg]) _ _ _ (fun k _ w0 hk=>⟨w0,by rw [hg];exact hk,rfl,rfl,rfl⟩) g.pos,h5,h2.trans g.lw,h3.trans g.lh⟩
noncomputable def Tree.selT(t:Tree)(n:Int)(w:Win):Tree:=((t.s_sel n).s_clock (t.clock+1)).put n (w.s_use (t.clock+1))
noncomputable def Tree.touchT(t:Tree)(n:Int)(w:Win):Tree:=(t.s_clock (t.clock+1)).put n (w.s_use (t.clock+1))
theorem Good.selT{sh:Sh}{t:Tree}(g:Good sh t){n:Int}{w:Win}(h2:t.get n=some w)(hn:n∈sh.leaves):Good sh (t.selT n w):=
 (g.meta (t':=(t.s_sel n).s_clock (t.clock+1)) rfl rfl rfl rfl rfl hn rfl).put (w:=w) (by simp only [Tree.get_s_clock,Tree.get_s_sel];exact h2) ⟨rfl,rfl,rfl,rfl,rfl⟩ rfl rfl
theorem Good.touchT{sh:Sh}{t:Tree}(g:Good sh t){n:Int}{w:Win}(h2:t.get n=some w):Good sh (t.touchT n w):=
 (g.meta (t':=t.s_clock (t.clock+1)) rfl rfl rfl rfl rfl g.sel rfl).put (w:=w) (by simp only [Tree.get_s_clock];exact h2) ⟨rfl,rfl,rfl,rfl,rfl⟩ rfl rfl
theorem DispR.good{sh:Sh}{b rr cc f:Int}{sh':Sh}{t':Tree}(g:Good sh t)(h:DispR sh t b rr cc f sh' t'):Good sh' t'∧(f≠0→f∈sh'.leaves)∧t'.sel=t.sel:=by
 cases h with
 | @known k rest e=>
  have hk:f∈A3u t sh.leaves b:=by rw [e];exact .head _
  exact A4x g (fun _=>(List.mem_filter.mp (List.mem_filter.mp hk).1).1) rfl
 | @split n a m _ t'' w' e e2 hn hr hg=>
  exact A4x (hr.good.put hg ⟨rfl,rfl,rfl,rfl,rfl⟩ rfl rfl) (fun _=>hr.leaves.mem_iff.mpr (.head _)) hr.sel
 | @take w e e2 e3 hg hm hd=>
  refine A4x ?_ (fun _=>hm) ?_
  ·split
   ·exact g
   ·exact g.put hg ⟨rfl,rfl,rfl,rfl,rfl⟩ rfl rfl
  ·split <;> rfl
 |none e e2 e3=>exact⟨g,fun h=>absurd rfl h,rfl⟩
theorem DispR.zero{sh:Sh}{b rr cc f:Int}{sh':Sh}{t':Tree}(g:Good sh t)(h:DispR sh t b rr cc f sh' t')(h0:f=0):A3u t sh.leaves b= []∧swF t sh.leaves rr cc=Option.none∧A7j t sh.leaves=0:=by
 cases h with
 | @known k rest e=>
  have hk:f∈A3u t sh.leaves b:=by rw [e];exact .head _
  have:=(g.bound f (A5f (List.mem_filter.mp (List.mem_filter.mp hk).1).1)).1
  lia
 |split e e2 hn hr hg=>exact absurd h0 hr.pos
 |take e e2 e3 hg hm hd=>exact absurd h0 e3
 |none e e2 e3=>exact⟨e,e2,e3⟩
theorem D4y(G:PG S)(E:EK S){sh:Sh}{b rr cc:Int}(g:Good sh t)(hN:sh.all.length≤800)(hpl:A2v t)(hno: ¬(A3u t sh.leaves b= []∧swF t sh.leaves rr cc=none∧A7j t sh.leaves=0))
  (h: ∀f sh' t' w,DispR sh t b rr cc f sh' t'→f∈sh'.leaves→t'.get f=some w→Q (.int f) (St.mk (some (t'.selT f w)) dk (none) (none) tb fid nam loc tmp cfid cnm cel glb)):
  WC S (d+10) r env 374 [.ref .tree,.int b,.rul rr cc] (St.mk (some t) dk (none) (none) tb fid nam loc tmp cfid cnm cel glb) Q X:=by
 refine B2s G fun L=>A6g rfl ?_
 intro K9
 refine A5v G List.mem_cons_self rfl rfl (A4y .head (A3j (ix 1 rfl rfl) (ix 2 rfl rfl) (B4z G E g hN hpl fun f sh' t' hr=>?_)))
 have h0:f≠0:=fun e=>hno (hr.zero g e)
 refine A1a (hr.good g) fun g' hl _=>?_
 have hm:=hl h0
 refine A2u (g'.leaf hm) fun w gw w0 _=>?_
 have h5':=Tree.s5 g'.stg
 refine A0k (.tail (.tail (.tail .head))) (A4i ?_)
 intro K9
 refine A6e rfl (ix 3 rfl rfl) (A0w (eqb (⟨fun hb=>absurd (by simpa using hb) h0,fun _=>?_⟩)))
 refine A0x (A6l ?_)
 intro K9
 refine A2g rfl rfl (A6y rfl .head (A4f G (by assumption) rfl rfl (A2s (ix 3 rfl rfl) (B8f G g'.stg gw w0 ?_))))
 have h1:=h f sh' t' w hr hm gw
 unfold Tree.selT at h1
 refine⟨trivial,?_⟩
 refine A0a (B1p (A0d (ix 3 rfl rfl) (A6c ?_)))
 exact h1
end
theorem B4g{t:Tree}: ∀(l:List Int) (f m:Int),(∀n∈l,t.area n≤m)→A0q t f m l=f
 | [],f,m,_=>rfl
 |n::l,f,m,h=>by
  simp only [A0q.e0,A0q.e1]
  refine(if_neg (by have:=h n (.head _);exact Z35 this)).trans ?_
  exact B4g l f m fun k hk=>h k (.tail _ hk)
theorem C1b{t:Tree}{M:Int}(l:List Int)(f m:Int)(h:M∈l.map t.area)(hle: ∀n∈l,t.area n≤M)(hm:m<M):l[(l.map t.area).idxOf M]? =some (A0q t f m l)
 :=by
 induction l generalizing f m with
 |nil=>exact k3 h
 |cons n l ih=>
  simp only [A0q.e0,A0q.e1,List.map_cons]
  have hle': ∀k∈l,t.area k≤M:=fun k hk=>hle k (.tail _ hk)
  by_cases e:t.area n=M
  ·rw [e,List.idxOf_cons_self,if_pos (by exact hm),B4g l n M hle'];rfl
  ·have hne:(t.area n == M)=false:=by simpa using e
   have hin:M∈l.map t.area:=by
    rcases List.mem_cons.mp h with q|q
    ·exact absurd q.symm e
    ·exact q
   have hn:=hle n (.head _)
   simp only [List.idxOf_cons,hne]
   show(n::l)[(l.map t.area).idxOf M+1]? =_
   simp only [List.getElem?_cons_succ]
   split
   ·exact ih n _ hin hle' (by lia)
   ·exact ih f m hin hle' hm
theorem C2u{t:Tree}(l:List Int)(f:Int)(hf:f≠0)(hn: ∀n∈l,n≠0):t.use (A0l t f l)≤t.use f∧ ∀n∈l,t.use (A0l t f l)≤t.use n
 :=by
 induction l generalizing f with
 |nil=>exact⟨Int.le_refl _,fun n hn=>by exact k3 hn⟩
 |cons n l ih=>
  simp only [A0l.e0,A0l.e1]
  have h1:=hn n (.head _)
  have hl: ∀k∈l,k≠0:=fun k hk=>hn k (.tail _ hk)
  split
  ·rename_i q
   have q:t.use n<t.use f:=q.resolve_left hf
   refine A0f (ih n h1 hl) fun a b=>⟨by lia,fun k hk=>?_⟩
   rcases List.mem_cons.mp hk with rfl|hk
   ·exact a
   ·exact b k hk
  ·rename_i q
   refine A0f (ih f hf hl) fun a b=>⟨a,fun k hk=>?_⟩
   rcases List.mem_cons.mp hk with rfl|hk
   ·have: ¬t.use k<t.use f:=fun w=>q (.inr w)
    lia
   ·exact b k hk
theorem C2t{t:Tree}{l:List Int}(hn: ∀n∈l,n≠0): ∀n∈l,t.use (A0l t 0 l)≤t.use n:=by
 cases l with
 |nil=>intro n h;exact k3 h
 |cons k l=>
  simp only [A0l.e0,A0l.e1]
  rw [if_pos (.inl trivial)]
  refine A0f (C2u (t:=t) l k (hn k (.head _)) fun j hj=>hn j (.tail _ hj)) fun a b=>?_
  intro n h
  rcases List.mem_cons.mp h with rfl|h
  ·exact a
  ·exact b n h
theorem B3p{t:Tree}{l l':List Int}(hp:l'.Perm l)(hs:l'.Pairwise (fun a b=>t.use a≤t.use b))(hn: ∀n∈l,n≠0)(hu: ∀a∈l,∀b∈l,t.use a=t.use b→a=b):l'= []∧l= []∨ ∃rest,l'=A0l t 0 l::rest∧A0l t 0 l≠0∧A0l t 0 l∈l:=by
 cases l' with
 |nil=>left;exact⟨rfl,by simpa using hp.symm⟩
 |cons k rest=>
  right
  have hk:k∈l:=hp.mem_iff.mp (.head _)
  have hne:l≠ []:=List.ne_nil_of_mem hk
  have hm:=B1r (t:=t) hn hne
  have h1:=C2t (t:=t) hn k hk
  have h2:t.use k≤t.use (A0l t 0 l):=by
   rcases List.mem_cons.mp (hp.mem_iff.mpr hm)with e|e
   ·rw [e];exact Int.le_refl _
   ·exact (List.pairwise_cons.mp hs).1 _ e
  have e:k=A0l t 0 l:=hu k hk _ hm (Int.le_antisymm h2 h1)
  subst e
  exact A8n rest rfl (hn _ hm) hm
noncomputable def B6w:Option Int→Str
 |none=>Str.ofString ""
 |some a=>if a=1 then Str.ofString "below" else Str.ofString "right"
theorem A7e{w:Win}{rr cc:Int}:B0q w rr cc=B6w (B4r w rr cc):=by
 unfold B0q B4r
 by_cases h1:w.ded=true
 ·simp only [if_pos h1,if_pos h1];rfl
 ·simp only [if_neg h1,if_neg h1]
  by_cases h2:(if 4>rr then 4 else rr)≤w.height
  ·rw [if_pos h2,if_pos h2];rfl
  ·rw [if_neg h2,if_neg h2]
   by_cases h3:(if 6>cc then 6 else cc)≤w.width
   ·rw [if_pos h3,if_pos h3];rfl
   ·rw [if_neg h3,if_neg h3];rfl
theorem B1n{o:Option Int}:(!decide (B6w o=Str.ofString ""))=o.isSome:=by
 cases o with
 |none=>rfl
 |some a=>
  simp only [B6w,Option.isSome_some]
  split <;> rfl
noncomputable def A2z(t:Tree)(l:List Int)(b rr cc:Int):AV:=
 match A3u t l b with
 |k::_=> .tup [.str (Str.ofString "shown"),.int k]
 | []=>match swF t l rr cc with
  |some (n,a)=> .tup [.str (Str.ofString "split"),.int n,.str (B6w (some a))]
  |none=>if A7j t l=0 then .tup [.str (Str.ofString "none")]else .tup [.str (Str.ofString "taken"),.int (A7j t l)]
noncomputable def Win.pl(w:Win)(a:Int):Int:=if a=0 then w.left else w.top
noncomputable def B8n(t:Tree)(n a:Int)(w:Win):List Int→Int→Prop
 | [],at_=>at_=w.pl a+w.sz a
 |c::rest,at_=> ∃wc,t.get c=some wc∧wc.parent=n∧wc.sort≠w.sort∧wc.pl a=at_∧wc.pl (1-a)=w.pl (1-a)∧wc.sz (1-a)=w.sz (1-a)∧B8n t n a w rest (at_+wc.sz a)
theorem B8n.e0{t:Tree}{n a:Int}{w:Win}{at_}:B8n t n a w [] at_=(at_=w.pl a+w.sz a):=rfl
theorem B8n.e1{t:Tree}{n a:Int}{w:Win}{c rest at_}:B8n t n a w (c::rest) at_=(∃wc,t.get c=some wc∧wc.parent=n∧wc.sort≠w.sort∧wc.pl a=at_∧wc.pl (1-a)=w.pl (1-a)∧wc.sz (1-a)=w.sz (1-a)∧B8n t n a w rest (at_+wc.sz a)):=rfl
theorem C0k{t:Tree}{n:Int}{w:Win}: ∀(ks:List Sh) (l tp wd ht:Int),Sh.GeoL t n w.sort ks wd ht→Sh.PosL t (w.sort == 2) ks l tp→
  (if w.sort=2 then wd=w.left+w.width-l∧ht=w.height∧tp=w.top else ht=w.top+w.height-tp∧wd=w.width∧l=w.left)→
  B8n t n (if w.sort=2 then 0 else 1) w (ks.map Sh.num) (if w.sort=2 then l else tp)
 | [],l,tp,wd,ht,h,_,q=>by
  simp only [Sh.GeoL.e0,Sh.GeoL.e1]at h
  simp only [List.map_nil,B8n.e0,B8n.e1,Win.pl,Win.sz]
  by_cases e:w.sort=2
  ·simp [e,if_true]at h q ⊢;exact Z36 h q
  ·simp only [e,if_false]at h q ⊢
   simp;exact Z36 h q
 |k::ks,l,tp,wd,ht,h,p,q=>by
  simp only [Sh.GeoL.e0,Sh.GeoL.e1]at h
  refine A0i h fun s h=>?_
  simp only [Sh.PosL.e0,Sh.PosL.e1]at p
  refine A0f p fun p1 p2=>?_
  try clear p
  refine A2u (B7b p1) fun wc' g' pl1 pl2=>?_
  by_cases e:w.sort=2
  ·simp only [e,if_true]at h q ⊢
   refine A0f h fun h1 h2=>?_
   try clear h
   refine C8p (Geo.num_get h1) fun wc g1 e1 e2 e3 e4=>?_
   have ew:=Option.some.inj (g'.symm.trans g1)
   rw [ew]at pl1 pl2
   have ih:=C0k ks (l+wc.width) tp (wd-s) ht (by rw [e];exact h2) (by
    rw [e]at p2 ⊢;simpa [Tree.wd,g1]using p2) (by simp [e,if_true];exact Z37 q e3)
   simp [e,if_true]at ih
   simp only [List.map_cons,B8n.e0,B8n.e1]
   refine B0f wc g1 e1 (by simp only [e];exact e2) (by trivial) (by simp [Win.pl,pl2,q.2.2]) (A8b (by simp [Win.sz,e4,q.2.1]) ?_)
   exact ih
  ·simp only [e,if_false]at h q ⊢
   refine A0f h fun h1 h2=>?_
   try clear h
   refine C8p (Geo.num_get h1) fun wc g1 e1 e2 e3 e4=>?_
   have ew:=Option.some.inj (g'.symm.trans g1)
   rw [ew]at pl1 pl2
   have eb:(w.sort == 2)=false:=by simpa using e
   have ih:=C0k ks l (tp+wc.height) wd (ht-s) h2 (by
    rw [eb]at p2 ⊢;simpa [Tree.ht,g1]using p2) (by simp [e,if_false];exact Z37 q e4)
   simp [e,if_false]at ih
   simp only [List.map_cons,B8n.e0,B8n.e1]
   refine B0f wc g1 e1 e2 (by trivial) (by simp [Win.pl,pl1,q.2.2]) (A8b (by simp [Win.sz,e3,q.2.1]) ?_)
   exact ih
theorem Good.node{sh:Sh}(g:Good sh t)(hn:n∈sh.all): ∃w,t.get n=some w∧((w.sort=0∧w.kids= []∧3≤w.width∧2≤w.height)∨
  ((w.sort=1∨w.sort=2)∧2≤w.kids.length∧w.kids.length≤sh.all.length∧B8n t n (if w.sort=2 then 0 else 1) w w.kids (w.pl (if w.sort=2 then 0 else 1)))):=by
 refine A3w g.geo fun W H hg _=>A0i (A6f sh hn) fun ks hs=>?_
 obtain ⟨par,ps,wd,ht,q,_⟩:=Geo.sub (by rw [g.lw];decide) (by rw [g.lh];decide) hs hg
 refine B5w (Pos.sub hs g.pos) fun l tp p=>?_
 simp only [Sh.Geo.e0]at q
 refine A5l q fun w e q1 q2 q3 q4 y9a=>?_
 try clear q
 refine A1a y9a fun q5 q6 q7=>?_
 simp only [Sh.Pos.e0]at p
 refine A6d p fun w' e' p1 p2 p3=>?_
 try clear p
 rw [e]at e';cases e'
 refine A1f w e ?_
 cases hk:ks with
 |nil=>
  left
  refine A1a (q6 hk) fun a1 a2 a3=>?_
  rw [g.lw]at a2;rw [g.lh]at a3
  rw [hk]at q2
  exact D2t a1 q2 (by exact Z25 q3 a2) (by exact Z26 q4 a3)
 |cons k ks'=>
  right
  obtain ⟨a1,a2,a3⟩:=q7 (by rw [hk];exact List.cons_ne_nil _ _)
  have hl:ks.length≤sh.all.length:=by
   have h1:=Sh.len_le ks
   have h2:=C0o hs
   simp only [Sh.all.e0,List.length_cons]at h2;exact Nat.le_trans h1 (Nat.le_of_lt h2)
  refine D2t a1 (by simp only [q2,List.length_map];exact a2) (by simp only [q2,List.length_map];exact hl) ?_
  simp only [q2]
  have:=C0k ks l tp wd ht a3 p3 (by
   by_cases e2:w.sort=2
   ·simp [e2,if_true];lia
   ·simp [e2,if_false];lia)
  have e3:w.pl (if w.sort=2 then 0 else 1)=if w.sort=2 then l else tp:=by
   by_cases e2:w.sort=2
   ·simp [e2,Win.pl,p1]
   ·simp [e2,Win.pl,p2]
  simp only [e3];exact this
section
variable {Q:AV→St→Prop}
theorem C4w{w:Win}{a:Int}:(if a=0 then w.left else w.top)=w.pl a:=rfl
theorem C6n{w:Win}{a:Int}:(if a=0 then w.width else w.height)=w.sz a:=rfl
theorem B5x(G:PG S){sh:Sh}(g:Good sh t)(hn:n∈sh.all)(hN:sh.all.length≤800)(h:Q .none (St.mk (some t) dk nw rl tb fid nam loc tmp cfid cnm cel glb)):WC S (d+2) r env 253 [.ref .tree,.int n] (St.mk (some t) dk nw rl tb fid nam loc tmp cfid cnm cel glb) Q X:=by
 refine B4j G fun L=>A0i G.c_LEAF fun t1 e1=>?_
 have h5:=Tree.s5 g.stg
 have h7:=g.stg
 refine A0e (g.node hn) fun w h2 hw=>A6g rfl ?_
 intro K9
 refine A8l .head (ix 1 rfl rfl) (by assumption) (by assumption) rfl (A0k (.tail (.tail .head)) (A4i ?_))
 intro K9
 refine A6x rfl (ix 2 rfl rfl) (A4g rfl (by assumption) (A3p List.mem_cons_self (by assumption) (eqb (⟨fun hb=>?_,fun hb=>?_⟩))))
 ·have h0:w.sort=0:=by simpa using hb
  refine C3g (hw.resolve_right (fun q=>by lia)) fun _ hk hwd hht=>A4i ?_
  intro K9
  refine A6x rfl (ix 2 rfl rfl) (A2f rfl (by assumption) (A5j (A0g (⟨Nat.le_of_ble_eq_true rfl,?_⟩))))
  refine A3t (B0c h2) (isb (⟨fun hb=>by simp [hk]at hb,fun _=>?_⟩))
  refine A0x (A0a (A4i ?_))
  intro K9
  refine B5c (A6x rfl (ix 2 rfl rfl) (A4p rfl (by assumption) (A2c .head (A5g rfl (by assumption) (D1g (isb (⟨fun hb=>by have:=of_decide_eq_true hb;have:=g.lw;omega,fun _=>?_⟩)))))))
  refine B5c (A6x rfl (ix 2 rfl rfl) (A3d rfl (by assumption) (A2c .head (A4o rfl (by assumption) (D1g (isb (⟨fun hb=>by have:=of_decide_eq_true hb;have:=g.lh;omega,fun _=>?_⟩)))))))
  refine A5y (⟨(fun h=>nomatch h),fun _=>?_⟩)
  refine A0x (A0a (B1p (A5w (A0m (B0v ?_)))))
  exact h
 ·have h0:w.sort≠0:=by simpa using hb
  refine C3g (hw.resolve_left (fun q=>h0 q.1)) fun hso hk2 hkl hwl=>A0x (A0a (A4i ?_))
  intro K9
  refine A3k rfl (B2m G (mi 1 rfl) rfl rfl (A0b rfl (A2c (ix 2 rfl rfl) (A2f rfl (by assumption) (A0g (A9u (B0c h2) (by rw [List.length_map];exact Nat.le_trans hkl (Nat.le_trans hN (by decide))) (A0w (D1g (isb (⟨fun hb=>by have:=of_decide_eq_true hb;simp at this;omega,fun _=>?_⟩))))))))))
  refine A0x (A6l ?_)
  intro K9
  refine A5k (x1:= "axis") (x2:= "at") rfl (by kernel_rfl) (A0z (A0b rfl (B3w G (mi 2 rfl) rfl rfl (A0b rfl (A2c (ix 2 rfl rfl) (A4g rfl (by assumption) (A0g (B5a G (A0b rfl (A6y rfl (ix 2 rfl rfl) (A3s G (by assumption) rfl rfl (A0b rfl (B3w G (mi 2 rfl) rfl rfl (A0b rfl (A2c (ix 2 rfl rfl) ?_)))))))))))))))
  refine A4g rfl (by assumption) (A0g (B5a G (A0g (B4y G h2 (A0g (⟨Nat.le_of_ble_eq_true rfl,?_⟩))))))
  refine ts2 (A0k (.tail (.tail (.tail (.tail .head)))) (A0k (.tail (.tail (.tail .head))) (A6l ?_)))
  intro K9
  simp only [C4w]
  generalize ha:(if w.sort=2 then(0:Int)else 1)=a at hwl ⊢
  refine B1l (fun _=>rfl) (A2c (ix 2 rfl rfl) (A2f rfl (by assumption) (D3r (l:=w.kids.map .int) ?_)))
  let I9:List Int→St→Prop:=fun rest σ'=> ∃(p:Int) (cv ov:Option AV),B8n t n a w rest p∧
   σ'=St.mk (some t) dk nw rl tb L ["tree","number","here","axis","at","child","own"] [some (.ref .tree),some (.int n),some (.ref (.win n)),some (.int a),some (.int p),cv,ov] [] L [] [] ["LEAF","len","along"]
  refine B0s (l₀:=w.kids.map .int) I9 rfl
   ⟨w.pl a,none,none,hwl,rfl⟩ ?_ ?_ ?_
  ·intro rest σ' h9
   refine A8c h9 fun p cv ov hwl y9a=>?_
   try clear h9
   obtain rfl:=y9a
   exact A7n (σ:=St.mk (some t) _ _ _ _ _ _ _ _ _ _ _ _) rfl h2
  ·intro c rest σ' K9 h9
   refine A8c h9 fun p cv ov hwl y9a=>?_
   try clear h9
   obtain rfl:=y9a
   simp only [B8n.e0,B8n.e1]at hwl
   refine A5l hwl fun wc gc q1 q2 q3 q4 y9a=>?_
   try clear hwl
   refine A0f y9a fun q5 q6=>A0k (.tail (.tail (.tail (.tail (.tail .head))))) (A6g rfl ?_)
   intro K9
   refine A6z rfl (A2c .head (A0s rfl (by assumption) (C8g rfl h5 (A0d (ix 5 rfl rfl) (A5w (B7l c rfl rfl rfl (A9c.sa (by rw [gc]) ?_)))))))
   dsimp only [B9l]
   refine A0k (.tail (.tail (.tail (.tail (.tail (.tail .head)))))) (A4i ?_)
   intro K9
   refine B5c (A6e rfl (ix 6 rfl rfl) (A5w (A8u (fun h=>by contradiction) (isb (⟨fun hb=>by exact k4 hb,fun _=>?_⟩)))))
   refine B5c (A6x rfl (ix 6 rfl rfl) (A3v rfl (by assumption) (A0d (ix 1 rfl rfl) (neb (⟨fun hb=>by simp [q1]at hb,fun _=>?_⟩)))))
   refine B5c (A6x rfl (ix 6 rfl rfl) (A4g rfl (by assumption) (A2c (ix 2 rfl rfl) (A4g rfl (by assumption) (eqb (⟨fun hb=>by simp [q2]at hb,fun _=>?_⟩))))))
   refine A5y (⟨(fun h=>nomatch h),fun _=>?_⟩)
   refine A0x (A0a (A4i ?_))
   intro K9
   refine B5c (A3k rfl (A6y rfl (ix 6 rfl rfl) (A3s G (by assumption) rfl rfl (A2s (ix 3 rfl rfl) (B4y G gc ?_)))))
   rw [C4w]
   refine A0d (ix 4 rfl rfl) (neb (⟨fun hb=>by simp [q3]at hb,fun _=>?_⟩))
   refine B5c (A3k rfl (A6y rfl (ix 6 rfl rfl) (A3s G (by assumption) rfl rfl (A0b rfl (A0t (A0w (A0d (ix 3 rfl rfl) (B9m (A0g (B4y G gc ?_))))))))))
   rw [C4w]
   refine A6y rfl (ix 2 rfl rfl) (A3s G (by assumption) rfl rfl (A0b rfl (A0t (A0w (A0d (ix 3 rfl rfl) (B9m (A0g (B4y G h2 (W1.sa (by rw [C4w]) (neb (⟨fun hb=>by simp [q4]at hb,fun _=>?_⟩)))))))))))
   refine A5y (⟨(fun h=>nomatch h),fun _=>?_⟩)
   refine A0x (A0a (A4i ?_))
   intro K9
   refine A3k rfl (A6y rfl (ix 6 rfl rfl) (A3l G (by assumption) rfl rfl (A0b rfl (A0t (A0w (A0d (ix 3 rfl rfl) (B9m (A0g (B6q G gc ?_)))))))))
   simp only [C6n]
   refine A6y rfl (ix 2 rfl rfl) (A3l G (by assumption) rfl rfl (A0b rfl (A0t (A0w (A0d (ix 3 rfl rfl) (B9m (A0g (B6q G h2 ?_))))))))
   simp only [C6n]
   refine neb (⟨fun hb=>by simp [q5]at hb,fun _=>?_⟩)
   refine A0x (A0a (A6g rfl ?_))
   intro K9
   refine A0t (A0d (ix 4 rfl rfl) (A6y rfl (ix 6 rfl rfl) (A3l G (by assumption) rfl rfl (A2s (ix 3 rfl rfl) (B6q G gc ?_)))))
   simp only [C6n]
   refine B0a (A0k (.tail (.tail (.tail (.tail .head)))) (A0x (A0a ?_)))
   exact B5k _ _ _ q6 rfl
  ·intro σ' h9
   refine A8c h9 fun p cv ov hwl y9a=>?_
   try clear h9
   obtain rfl:=y9a
   simp only [B8n.e0,B8n.e1]at hwl
   refine A6l ?_
   intro K9
   refine A0u (A6k (A6e rfl (ix 4 rfl rfl) (A0t (A6y rfl (ix 2 rfl rfl) (A3s G (by assumption) rfl rfl (A2s (ix 3 rfl rfl) (B4y G h2 ?_)))))))
   simp only [C4w]
   refine A6y rfl (ix 2 rfl rfl) (A3l G (by assumption) rfl rfl (A2s (ix 3 rfl rfl) (B6q G h2 ?_)))
   simp only [C6n]
   refine B0a (eqb (⟨fun _=>?_,fun hb=>by simp [hwl]at hb⟩))
   refine A5w (A0m (B0v ?_))
   exact h
theorem C7g{sh:Sh}(g:Good sh t): ∃w,t.get sh.num=some w∧w.parent=0∧w.left=0∧w.top=0:=by
 refine A3w g.geo fun W H hg _=>A2u (Geo.num_get hg) fun w e q1 _=>A2u (B7b g.pos) fun w' e' q2 q3=>?_
 rw [e]at e';cases e'
 exact B7l w e q1 q2 q3
theorem B2i(G:PG S){sh:Sh}(g:Good sh t)(hN:sh.all.length<64)(h:Q .none (St.mk (some t) dk nw rl tb fid nam loc tmp cfid cnm cel glb)):WC S (d+3) r env 260 [.ref .tree] (St.mk (some t) dk nw rl tb fid nam loc tmp cfid cnm cel glb) Q X:=by
 refine B7s G fun L=>?_
 have h5:=Tree.s5 g.stg
 have h7:=g.stg
 refine A6d (C7g g) fun w h2 q1 q2 q3=>A6g rfl ?_
 intro K9
 refine A6z rfl (A2c .head (A0s rfl (by assumption) (C8g rfl h5 (A2c .head (B1u rfl (by assumption) (A5w ?_))))))
 rw [g.root]
 refine B7l sh.num rfl rfl rfl ?_
 rw [h2]
 dsimp only [B9l]
 refine A0k (.tail .head) (A4i ?_)
 intro K9
 refine B5c (A6e rfl (ix 1 rfl rfl) (A5w (A8u (fun h=>by contradiction) (isb (⟨fun hb=>by exact k4 hb,fun _=>?_⟩)))))
 refine B5c (A6x rfl (ix 1 rfl rfl) (A3v rfl (by assumption) (A0w (neb (⟨fun hb=>by simp [q1]at hb,fun _=>?_⟩)))))
 refine B5c (A6x rfl (ix 1 rfl rfl) (B1v rfl (by assumption) (A0w (neb (⟨fun hb=>by simp [q2]at hb,fun _=>?_⟩)))))
 refine B5c (A6x rfl (ix 1 rfl rfl) (B6k rfl (by assumption) (A0w (neb (⟨fun hb=>by simp [q3]at hb,fun _=>?_⟩)))))
 refine A5y (⟨(fun h=>nomatch h),fun _=>?_⟩)
 refine A0x (A0a (A6g rfl ?_))
 intro K9
 refine A8r G List.mem_cons_self rfl rfl (A4y .head (A0b rfl (A2c .head (B1u rfl (by assumption) (A0g ?_)))))
 rw [g.root]
 refine A9a G h5 g.rep (by exact Z38 hN) (A0k (.tail (.tail .head)) (A0h ?_))
 intro K9
 refine B1l (fun _=>rfl) (A0d (ix 2 rfl rfl) (D1i ?_))
 let I9:List Int→St→Prop:=fun rest σ'=> ∃(nv wv:Option AV),(∀k∈rest,k∈sh.all)∧
  σ'=St.mk (some t) dk nw rl tb L ["tree","root","found","number","word"] [some (.ref .tree),some (.ref (.win sh.num)),some (.lst (sh.all.map .int)),nv,wv] [] L [] [] ["windows_under","wrong_window","sorted","leaves_under"]
 refine A9l I9 rfl ⟨none,none,fun _ h=>h,rfl⟩ ?_ ?_
 ·intro k rest σ' K9 h9
  refine A3w h9 fun nv wv hin y9a=>?_
  try clear h9
  obtain rfl:=y9a
  refine A0k (.tail (.tail (.tail .head))) (A6g rfl ?_)
  intro K9
  refine B5i G (mi 1 rfl) rfl rfl (A3j .head (ix 3 rfl rfl) (B5x G g (hin k (.head _)) (by lia) (A0k (.tail (.tail (.tail (.tail .head)))) (A4i ?_))))
  intro K9
  refine A6e rfl (ix 4 rfl rfl) (A5w (A8t (fun h=>by contradiction) (isb (⟨fun hb=>by exact k4 hb,fun _=>?_⟩))))
  refine A0x (A5u (A0a ?_))
  exact D0p _ _ (fun k hk=>hin k (.tail _ hk)) rfl
 ·intro σ' h9
  refine A3w h9 fun nv wv hin y9a=>?_
  try clear h9
  obtain rfl:=y9a
  refine A0a (A4i ?_)
  intro K9
  refine A3k rfl (C1t G (mi 2 rfl) rfl rfl (A2s (ix 2 rfl rfl) (b_sorted A1g (by simpa using hN) fun l1 p1 s1=>C1t G (mi 2 rfl) rfl rfl (A0b rfl (A2c .head (A0s rfl (by assumption) (A0g (B8l rfl (by show 1≤t.stg;exact Z8 h7) (by rw [g.len];exact hN) fun l2 p2 s2=>?_))))))))
  have e:l1=l2:=C4y (p1.trans ((List.perm_ext_iff_of_nodup g.nd g.knd).mpr (fun k=>(g.keys k).symm) |>.trans p2.symm)) s1 s2
  subst e
  skip
  refine B7e (fun a h=>by obtain ⟨_,_,rfl⟩:=List.mem_map.mp h;rfl) (isb (⟨(fun h=>nomatch h),fun _=>?_⟩))
  refine A0x (A6l ?_)
  intro K9
  refine A0u (A6k (A6x rfl .head (A1c rfl (by assumption) (A7m G (mi 3 rfl) rfl rfl (A4y .head (A0b rfl (A2c .head (B1u rfl (by assumption) (A0g ?_)))))))))
  simp only [g.root]
  refine A7o G h5 g.rep (by exact Z38 hN) ?_
  skip
  refine C5a A1g (isb (⟨fun _=>?_,fun hb=>?_⟩))
  ·refine A5w (A0m (B0v ?_))
   exact h
  ·have:=g.sel
   simp [List.any_eq_false,beq_iff_eq]at hb
   exact absurd rfl (hb _ this)
end
section
variable {Q:AV→St→Prop}
theorem C5k(G:PG S)(B:BK S){fp ep kp lp pos p1 p2 p3 p4 p5 p6:Pos}{x:Str}{l:List Int}{ca:Addr}(hx:Str.ofString "sorted"∈glb)(hf:Has nam loc x (.lst (l.map .int)))(hcl:closureFor C3q env=pure [(Str.ofString "tree",ca)])(hcd:env.code= .ref 392)
  (hcn:cnm[0]? =some (Str.ofString "tree")) (hce:cel[0]? =some (some (.ref .tree))) (hca:env.cells.lookup (Str.ofString "tree")=some ca) (hS:t.S5) (hl: ∀n∈l,t.Has n) (h64:l.length<64)
  (h: ∀l':List Int,l'.Perm l→l'.Pairwise (fun a b=>t.use a≤t.use b)→Q (.lst (l'.map .int)) (St.mk (some t) dk nw rl (false) fid nam loc tmp cfid cnm cel glb)):
  W S d r env (RV S) (eval (.Call (.Name (Str.ofString "sorted") fp) [.Name x ep] [⟨some (Str.ofString "key"),.Lambda (C7t p6) (C7u p1 p2 p3 p4 p5) C3q lp,kp⟩] pos) env) (St.mk (some t) dk nw rl (true) fid nam loc tmp cfid cnm cel glb) Q X:=
 C3x (σ:=(St.mk (some t) dk nw rl (true) fid nam loc tmp cfid cnm cel glb)) G B hx hf hcl hcd hcn hce hca rfl hS hl h64 rfl h
theorem C9q{test:Expr}{body orelse:List Stmt}{pos:Pos}{Q:AF→St→Prop}(v:Bool)(ht:W S d r env RB (isTrue test env (eval test env)) σ (fun b σ₁=>b=v∧σ₁=σ) (fun _=>False))(h1:v=true→W S d r env (RF S) (execs body env) σ Q X)(h2:v=false→W S d r env (RF S) (execs orelse env) σ Q X):
  W S d r env (RF S) (exec (.If test body orelse pos) env) σ Q X:=C8z (ht.mono (fun b σ₁ q=>by obtain ⟨rfl,rfl⟩:=q;exact⟨h1,h2⟩) fun _ h=>h.elim)
theorem D4v{t:Tree}{l:List Int}{b:Int}:(l.filter fun n=>t.buf n == b && n != t.sel)=A3u t l b:=by
 unfold A3u;refine Eq.trans ?_ (List.filter_filter).symm
 exact List.filter_congr fun n _=>Bool.and_comm _ _
theorem C0e(G:PG S)(B:BK S){sh:Sh}{b rr cc:Int}(g:Good sh t)(hN:sh.all.length<64)(hu: ∀a∈sh.leaves,∀b∈sh.leaves,t.use a=t.use b→a=b)(h: ∀tb',Q (A2z t sh.leaves b rr cc) (St.mk (some t) dk nw rl (tb') fid nam loc tmp cfid cnm cel glb)):
  WC S (d+3) r env 393 [.ref .tree,.int b,.int rr,.int cc] (St.mk (some t) dk nw rl (true) fid nam loc tmp cfid cnm cel glb) Q X:=by
 refine B7x G fun L=>?_
 have h5:=Tree.s5 g.stg
 have h7:=g.stg
 have hleaf: ∀n∈sh.leaves,t.Has n:=fun n hn=>let ⟨w,e,_⟩:=g.leaf hn;⟨w,e⟩
 have hnz: ∀n∈sh.leaves,n≠0:=fun n hn=>by have:=(g.bound n (A5f hn)).1;exact Int.ne_of_gt this
 have hll:sh.leaves.length<64:=Nat.lt_of_le_of_lt (Sh.leaves_le sh) hN
 have hne:sh.leaves≠ []:=List.ne_nil_of_mem g.sel
 refine A6g rfl ?_
 intro K9
 refine A2x G List.mem_cons_self rfl rfl (A8k .head (A3a G g.stg g.root g.rep (by exact Z38 hN) (A0k (.tail (.tail .head)) (A0h ?_))))
 intro K9
 refine A4j (cl:= [("tree",L+1),("buffer",L+2)]) (g:= []) (by with_unfolding_all rfl) (by with_unfolding_all rfl) rfl (by decide) (fun _=>rfl) (A0d (ix 2 rfl rfl) (A6t (cnm':= ["tree","buffer"]) (cel':= [some (.ref .tree),some (.int b)]) 2 (fun n=>t.buf n == b && n != t.sel) .int (by exact Z39 hll) rfl rfl ⟨by with_unfolding_all rfl,by decide,rfl,by decide,rfl,fun C=>⟨rfl,rfl,rfl,B2k ⟨by kernel_rfl,by rfl⟩,D1k ⟨by kernel_rfl,by rfl⟩ ⟨by kernel_rfl,by rfl⟩,C3r,by decide⟩,D1k (by kernel_rfl) (by kernel_rfl)⟩ ?_ ?_ ?_))
 ·intro C n hn
  refine A0i (hleaf n hn) fun w g1=>B6m (A7l (A3k rfl (A3q rfl (A9m .head .head (by assumption) (by assumption) rfl (A6r rfl (by assumption) (A8v (ix 1 rfl rfl) (eqb (⟨fun hb=>?_,fun hb=>?_⟩))))))))
  ·refine A7l (A6e rfl .head (B6t .head (A1c rfl (by assumption) (neb (⟨fun hb2=>?_,fun hb2=>?_⟩)))))
   ·refine A6m ?_
    exact⟨rfl,by simp [Tree.buf,g1]at hb hb2 ⊢;trivial⟩
   ·exact ⟨rfl,by simp [Tree.buf,g1]at hb hb2 ⊢;simp [hb,hb2]⟩
  ·exact ⟨rfl,by simp [Tree.buf,g1]at hb ⊢;simp [hb]⟩
 ·intro C n hn _
  refine B2t (A0d .head ?_)
  exact⟨rfl,rfl⟩
 simp only [D4v]
 unfold A2z at h
 generalize A3u t sh.leaves b=kn at *
 refine A0k (.tail (.tail (.tail (.tail .head)))) (A0a (A4i ?_))
 intro K9
 refine A6e rfl (ix 4 rfl rfl) (A5j (A0g (⟨Nat.le_of_ble_eq_true rfl,?_⟩)))
 refine A3t A1g (isb (⟨fun hb=>?_,fun hb=>?_⟩))
 ·cases kn with
  |nil=>exact k4 hb
  |cons k rest=>
  refine A0h ?_
  intro K9
  refine A0u (A0z (A0b rfl (A5h (A0b rfl (A5i (ix 4 rfl rfl) (A6a (i:=0) (b:= .int k) A1g (by decide) (by decide) rfl (fun _ _=>rfl) (A0g (⟨Nat.le_of_ble_eq_true rfl,?_⟩))))))))
  refine A0m (A0m (A6b ?_))
  exact h true
 have hkn0:kn= []:=by cases kn with
  |nil=>rfl
  |cons k rest=>contradiction
 subst hkn0
 dsimp only at h
 refine A0x (A6l ?_)
 intro K9
 refine A4j (cl:= [("tree",L+1)]) (g:= []) (by with_unfolding_all rfl) (by with_unfolding_all rfl) rfl (by decide) (fun _=>rfl) (A0d (ix 2 rfl rfl) (A6t (cnm':= ["tree"]) (cel':= [some (.ref .tree)]) 1 (fun _=>true) (fun n=> .int (t.area n)) (by exact Z39 hll) rfl rfl ⟨by with_unfolding_all rfl,by decide,rfl,by decide,rfl,fun C=>⟨rfl,rfl,rfl,B2k ⟨by kernel_rfl,by assumption⟩,B2k ⟨by kernel_rfl,by assumption⟩,C3r,by decide⟩,B2k (by kernel_rfl)⟩ ?_ ?_ ?_))
 ·intro C n hn
  exact C9g
 ·intro C n hn _
  refine A5l (g.leaf hn) fun w g1 _ _ l1 _ y9a=>A0f y9a fun l3 _=>B2t (A0t (A3q rfl (A9m .head .head (by assumption) (by assumption) rfl (A4p rfl (by assumption) (A3q rfl (A9m .head .head (by assumption) (by assumption) rfl (A3d rfl (by assumption) (B7f (B0p (by exact Int.le_trans (by decide) l1) l3) ?_))))))))
  skip
  exact⟨rfl,by simp [Tree.area,g1]⟩
 have ear:((sh.leaves.filter fun _=>true).map fun n=>AV.int (t.area n))=(sh.leaves.map t.area).map .int:=by
  rw [List.filter_eq_self.mpr (fun _ _=>rfl),List.map_map];rfl
 simp only [ear]
 refine A0k (.tail (.tail (.tail (.tail (.tail .head))))) (A0a (A6g rfl ?_))
 intro K9
 refine C5k G B (mi 1 rfl) (ix 2 rfl rfl) (ca:=L+1) (by with_unfolding_all rfl) rfl rfl rfl (by kernel_rfl) h5 hleaf hll fun l' hp hs=>A0k (.tail (.tail (.tail (.tail (.tail (.tail .head)))))) (A0h ?_)
 intro K9
 have hso:=B3p hp hs hnz hu
 refine A2u (hso.resolve_left (fun q=>hne q.2)) fun rest hl' ho0 hom=>?_
 have har: ∀n∈sh.leaves,0≤t.area n:=fun n hn=>by
  refine A5l (g.leaf hn) fun w e _ _ e1 e2 _=>?_
  simp only [Tree.area,e,Option.map_some,Option.getD_some]
  exact Int.mul_nonneg (by exact Int.le_trans (by decide) e1) (by exact Int.le_trans (by decide) e2)
 have m1:=B4f har hne
 refine B1l (fun _=>rfl) (A0z (A0b rfl (A6i (A0d (ix 2 rfl rfl) (A6y rfl (ix 5 rfl rfl) (C1v rfl A1g (C4r G (mi 2 rfl) rfl rfl (A2s (ix 5 rfl rfl) (D3i A1g (by simpa using hne) fun M hM hMle=>?_)))))))))
 skip
 refine C8a M (sh.leaves.map t.area) rfl A1g (by rw [List.length_map];exact Z39 hll) hM ?_
 have hM0:0≤M:=by obtain ⟨n,hn,e⟩:=List.mem_map.mp hM;rw [←e];exact har n hn
 have hat:=C1b (t:=t) sh.leaves 0 (-1) hM (fun n hn=>hMle _ (List.mem_map_of_mem hn)) (by assumption)
 have hix:(sh.leaves.map t.area).idxOf M<sh.leaves.length:=(List.getElem?_eq_some_iff.mp hat).1
 skip
 refine A6a (i:=((sh.leaves.map t.area).idxOf M:Nat)) (b:= .int (A0q t 0 (-1) sh.leaves)) A1g (Int.ofNat_nonneg _) (by lia) (by simp only [Int.toNat_natCast,List.getElem?_map,hat];rfl) (fun _ _=>rfl) ?_
 refine A0b rfl (A5i (ix 6 rfl rfl) (A6a (i:=0) (b:= .int (A0l t 0 sh.leaves)) A1g (by decide) (by decide) (by rw [hl'];rfl) (fun _ _=>rfl) (A0g (⟨Nat.le_of_ble_eq_true rfl,?_⟩))))
 refine D5j (A0e (g.leaf m1) fun wa ga _=>A0e (g.leaf hom) fun wb gb _=>A2u (g.leaf g.sel) fun ws gs s0 _=>?_)
 have da:t.dir (A0q t 0 (-1) sh.leaves) rr cc=B4r wa rr cc:=by simp [Tree.dir,ga]
 have db:t.dir (A0l t 0 sh.leaves) rr cc=B4r wb rr cc:=by simp [Tree.dir,gb]
 unfold swF at h
 rw [da,db]at h
 have hus: ∀n∈A5a t sh.leaves,n∈sh.leaves:=fun n hn=>(List.mem_filter.mp hn).1
 have hso2:=B3p (t:=t) (hp.filter fun n=> !t.ded n && n != t.sel) (hs.filter _) (fun n hn=>hnz n (hus n hn)) (fun a ha b hb=>hu a (hus a ha) b (hus b hb))
 have hmem': ∀n∈l',n∈sh.leaves:=fun n hn=>hp.mem_iff.mp hn
 have hll':l'.length<64:=by rw [hp.length_eq];exact hll
 rw [←hl']at *
 generalize hna:A0q t 0 (-1) sh.leaves=na at *
 generalize hnb:A0l t 0 sh.leaves=nb at *
 refine A0k (.tail (.tail (.tail .head))) (A6g rfl ?_)
 intro K9
 refine A7c G (mi 3 rfl) rfl rfl (A0b rfl (A9m .head (ix 3 rfl rfl) (by assumption) (by assumption) rfl (A3j .head (ix 1 rfl rfl) (A7g G ga ?_))))
 simp only [A7e]
 refine A0k (.tail (.tail (.tail (.tail (.tail (.tail (.tail .head))))))) (A4i ?_)
 intro K9
 refine A6e rfl (ix 7 rfl rfl) (A5h (B7d (isb ?_)))
 rw [B1n]
 refine⟨fun hb=>?_,fun hb=>?_⟩
 ·refine A0i (Option.isSome_iff_exists.mp hb) fun x hx=>?_
  rw [hx]at h
  refine A0h ?_
  intro K9
  refine A0u (A0z (A0b rfl (A5h (A3j (ix 3 rfl rfl) (ix 7 rfl rfl) (⟨Nat.le_of_ble_eq_true rfl,?_⟩)))))
  refine A0m (A0m (A0m (A0m (A6b ?_))))
  rw [hx]
  exact h false
 have hda:B4r wa rr cc=none:=by simpa using hb
 rw [hda]at h
 dsimp only at h
 refine A0x (A5u (A0a (A0k (.tail (.tail (.tail .head))) (A6g rfl ?_))))
 intro K9
 refine A7c G (mi 3 rfl) rfl rfl (A0b rfl (A9m .head (ix 3 rfl rfl) (by assumption) (by assumption) rfl (A3j .head (ix 1 rfl rfl) (A7g G gb ?_))))
 simp only [A7e]
 refine A0k (.tail (.tail (.tail (.tail (.tail (.tail (.tail .head))))))) (A4i ?_)
 intro K9
 refine A6e rfl (ix 7 rfl rfl) (A5h (B7d (isb ?_)))
 rw [B1n]
 refine⟨fun hb=>?_,fun hb=>?_⟩
 ·refine A0i (Option.isSome_iff_exists.mp hb) fun x hx=>?_
  rw [hx]at h
  refine A0h ?_
  intro K9
  refine A0u (A0z (A0b rfl (A5h (A3j (ix 3 rfl rfl) (ix 7 rfl rfl) (⟨Nat.le_of_ble_eq_true rfl,?_⟩)))))
  refine A0m (A0m (A0m (A0m (A6b ?_))))
  rw [hx]
  exact h false
 have hdb:B4r wb rr cc=none:=by simpa using hb
 rw [hdb]at h
 dsimp only at h
 refine A0x (A5u (A0a ?_))
 show W _ _ _ _ _ _ _ _ _
 refine A0h ?_
 intro K9
 have hsg: ∀x,sh.leaves= [x]→ ∃wx,t.get x=some wx∧t.dir x 0 cc=B4r wx 0 cc:=fun x hx=>by
  obtain ⟨wx,gx⟩:=hleaf x (by rw [hx];exact .head _)
  exact A1f wx gx (by simp [Tree.dir,gx])
 refine C9q (decide (sh.leaves.length=1) && (t.dir (sh.leaves.headD 0) 0 cc).isSome) ?_ (fun hb=>?_) fun hb=>?_
 ·refine A7l (A3k rfl (B2m G (mi 4 rfl) rfl rfl (A2s (ix 2 rfl rfl) (A9u (l:=sh.leaves.map .int) A1g (by rw [List.length_map];exact Z39 hll) (A0w (eqb (⟨fun hb=>?_,fun hb=>?_⟩)))))))
  ·have h1:sh.leaves.length=1:=by have:=of_decide_eq_true hb;simp at this;exact Int.ofNat.inj this
   obtain ⟨x,hx⟩: ∃x,sh.leaves= [x]:=List.length_eq_one_iff.mp h1
   refine A0e (hsg x hx) fun wx gx dx=>A7l (A3k rfl (A7c G (mi 3 rfl) rfl rfl (A0b rfl (A6i (B6t .head (A0s rfl (by assumption) (A5i (ix 2 rfl rfl) (A6a (i:=0) (b:= .int x) A1g (by decide) (by decide) (by rw [hx];rfl) (fun _ _=>rfl) (A6q rfl (by assumption) (by assumption) (fun _ _=>rfl) (C3p (A2s (ix 1 rfl rfl) (A7g G gx ?_))))))))))))
   simp only [A7e]
   refine A5h (B7d (isb ?_))
   rw [B1n]
   have e2:(decide (sh.leaves.length=1) && (t.dir (sh.leaves.headD 0) 0 cc).isSome)=(B4r wx 0 cc).isSome:=by
    rw [h1,hx];simp only [List.headD_cons];rw [dx];rfl
   rw [e2]
   refine⟨fun hb2=>?_,fun hb2=>?_⟩
   ·refine A6m ?_
    exact⟨hb2.symm,rfl⟩
   ·exact ⟨hb2.symm,rfl⟩
  ·have h1: ¬sh.leaves.length=1:=by have:=of_decide_eq_false hb;simp at this;exact Z34 this
   exact⟨by simp [h1],rfl⟩
 ·refine A0f (Bool.and_eq_true_iff.mp hb) fun h1 h2=>?_
  have h1:sh.leaves.length=1:=of_decide_eq_true h1
  obtain ⟨x,hx⟩: ∃x,sh.leaves= [x]:=List.length_eq_one_iff.mp h1
  refine A0e (hsg x hx) fun wx gx dx=>?_
  have ehd:sh.leaves.headD 0=x:=by rw [hx];rfl
  rw [ehd,dx]at h2
  refine A0i (Option.isSome_iff_exists.mp h2) fun a ha=>?_
  rw [if_pos h1,ehd,dx,ha]at h
  refine A0h ?_
  intro K9
  refine A0u (A0z (A0b rfl (A5h (A0b rfl (A5i (ix 2 rfl rfl) (A6a (i:=0) (b:= .int x) A1g (by decide) (by decide) (by rw [hx];rfl) (fun _ _=>rfl) (A0b rfl (A7c G (mi 3 rfl) rfl rfl (A0b rfl (A6i (B6t .head (A0s rfl (by assumption) (A5i (ix 2 rfl rfl) (A6a (i:=0) (b:= .int x) A1g (by decide) (by decide) (by rw [hx];rfl) (fun _ _=>rfl) (A6q rfl (by assumption) (by assumption) (fun _ _=>rfl) ?_)))))))))))))))
  refine C3p (A2s (ix 1 rfl rfl) (A7g G gx ?_))
  simp only [A7e,ha]
  refine A0g (⟨Nat.le_of_ble_eq_true rfl,?_⟩)
  refine A0m (A0m (A6b ?_))
  exact h false
 have hsw:(if sh.leaves.length=1 then(t.dir (sh.leaves.headD 0) 0 cc).map (fun x=>(sh.leaves.headD 0,x))else none)=none:=by
  by_cases h1:sh.leaves.length=1
  ·refine (if_pos h1).trans ?_
   have h2:(t.dir (sh.leaves.headD 0) 0 cc).isSome=false:=by simpa [h1]using hb
   cases q:t.dir (sh.leaves.headD 0) 0 cc with
   |none=>rfl
   |some x=>rw [q]at h2;contradiction
  ·exact (if_neg h1)
 rw [hsw]at h
 dsimp only at h
 refine A0x (A6l ?_)
 intro K9
 refine A4j (cl:= [("tree",L+1)]) (g:= []) (by with_unfolding_all rfl) (by with_unfolding_all rfl) rfl (by decide) (fun _=>rfl) (A0d (ix 6 rfl rfl) (A6t (cnm':= ["tree"]) (cel':= [some (.ref .tree)]) 1 (fun n=> !t.ded n && n != t.sel) .int (by exact Z39 hll') rfl rfl ⟨by with_unfolding_all rfl,by decide,rfl,by decide,rfl,fun C=>⟨rfl,rfl,rfl,B2k ⟨by kernel_rfl,by assumption⟩,B2k ⟨by kernel_rfl,by assumption⟩,C3r,by decide⟩,B2k (by kernel_rfl)⟩ ?_ ?_ ?_))
 ·intro C n hn
  refine A0i (hleaf n (hmem' n hn)) fun w g1=>B6m (A7l (C9s (A7k rfl (A3q rfl (A9m .head .head (by assumption) (by assumption) rfl (A1m rfl (by assumption) (isb (⟨fun hb=>?_,fun hb=>?_⟩))))))))
  ·refine A7l (A6e rfl .head (B6t .head (A1c rfl (by assumption) (neb (⟨fun hb2=>?_,fun hb2=>?_⟩)))))
   ·refine A6m ?_
    exact⟨rfl,by simp [Tree.ded,g1]at hb hb2 ⊢;trivial⟩
   ·exact ⟨rfl,by simp [Tree.ded,g1]at hb hb2 ⊢;simp [hb,hb2]⟩
  ·exact ⟨rfl,by simp [Tree.ded,g1]at hb ⊢;simp [hb]⟩
 ·intro C n hn _
  refine B2t (A0d .head ?_)
  exact⟨rfl,rfl⟩
 have sded:t.ded t.sel=ws.ded:=by simp [Tree.ded,gs]
 have hs0:t.sel≠0:=hnz _ g.sel
 unfold A7j at h
 rw [sded]at h
 generalize List.filter (fun n=> !t.ded n && n != t.sel) l'=rl at *
 refine A0k (.tail (.tail (.tail (.tail (.tail (.tail (.tail (.tail .head)))))))) (A0a (A4i ?_))
 intro K9
 refine A6e rfl (ix 8 rfl rfl) (A5j (A0g (⟨Nat.le_of_ble_eq_true rfl,?_⟩)))
 refine A3t A1g (isb (⟨fun hb=>?_,fun hb=>?_⟩))
 ·rcases hso2 with⟨e,_⟩| ⟨rest2,e,e0,_⟩
  ·rw [e]at hb;exact k4 hb
  ·have e0':A0l t 0 (A5a t sh.leaves)≠0:=e0
   have tk:(if A0l t 0 (A5a t sh.leaves)=0∧ws.ded=false then t.sel else A0l t 0 (A5a t sh.leaves))=A0l t 0 (A5a t sh.leaves):=if_neg (fun q=>e0' q.1)
   rw [tk,if_neg e0']at h
   refine A0h ?_
   intro K9
   refine A0u (A0z (A0b rfl (A5h (A0b rfl (A5i (ix 8 rfl rfl) (A6a (i:=0) (b:= .int (A0l t 0 (A5a t sh.leaves))) A1g (by decide) (by decide) (by rw [e];rfl) (fun _ _=>rfl) (A0g (⟨Nat.le_of_ble_eq_true rfl,?_⟩))))))))
   refine A0m (A0m (A6b ?_))
   exact h false
 ·have eu:A5a t sh.leaves= []:=by
   rcases hso2 with⟨_,e⟩| ⟨rest2,e,_⟩
   ·exact e
   ·rw [e]at hb;contradiction
  rw [eu,show A0l t 0 []=0 from rfl]at h
  refine A0x (A6l ?_)
  intro K9
  refine A0u (A6k (A7k rfl (A3q rfl (A6i (B6t .head (A0s rfl (by assumption) (B6t .head (A1c rfl (by assumption) (A6q rfl (by assumption) (by assumption) (fun _ _=>rfl) (A1m rfl (by assumption) (isb (⟨fun hd=>?_,fun hd=>?_⟩))))))))))))
  ·have tk:(if(0:Int)=0∧ws.ded=false then t.sel else 0)=0:=if_neg (fun q=>by rw [hd]at q;contradiction)
   rw [tk,if_pos rfl]at h
   refine A0z (A0b rfl (A5h (A0g (⟨Nat.le_of_ble_eq_true rfl,?_⟩))))
   refine A0m (A6b ?_)
   exact h false
  ·have tk:(if(0:Int)=0∧ws.ded=false then t.sel else 0)=t.sel:=if_pos ⟨rfl,hd⟩
   rw [tk,if_neg hs0]at h
   refine A0z (A0b rfl (A5h (A0b rfl (B6t .head (A1c rfl (by assumption) (A0g (⟨Nat.le_of_ble_eq_true rfl,?_⟩)))))))
   refine A0m (A6b ?_)
   exact h false
end
section
variable {Q:AV→St→Prop}
noncomputable def B5g(W H b lw lh:Int):Tree:={wins:= [(1,{Win.new 0 0 with width:=W,height:=H,buf:=b,use:=1})],last:=1,clock:=1,lw:=lw,lh:=lh,root:=1,sel:=1,stg:=7}
noncomputable def B9a(k:Nat)(lw lh:Int):Tree:={Tree.new with stg:=k,lw:=lw,lh:=lh}
theorem B2a(G:PG S){W H b lw lh:Int}(h:Q .none (St.mk (some (B5g W H b lw lh)) dk (none) rl tb fid nam loc tmp cfid cnm cel glb)):WC S (d+4) r env 126 [.ref .tree,.int W,.int H,.int b,.int lw,.int lh] (St.mk (some Tree.new) dk (none) rl tb fid nam loc tmp cfid cnm cel glb) Q X:=by
 refine B1a G fun L=>A0i G.c_LEAF fun t1 e1=>A0h ?_
 intro K9
 refine D0j .head (A0a (A8g rfl ?_))
 intro K9
 refine A0w (A0d .head (B6j (t':=B9a 2 0 0) (by decide) rfl rfl ⟨by exact Nat.le_refl _,by exact Nat.le_of_ble_eq_true rfl⟩ (A8g rfl ?_)))
 intro K9
 refine A0w (A0d .head (B6j (t':=B9a 3 0 0) (by decide) rfl rfl ⟨by exact Nat.le_of_ble_eq_true rfl,by exact Nat.le_of_ble_eq_true rfl⟩ (A8g rfl ?_)))
 intro K9
 refine A0d (ix 4 rfl rfl) (A0d .head (B6j (t':=B9a 4 lw 0) (by decide) rfl rfl ⟨by exact Nat.le_of_ble_eq_true rfl,by show 1≤4;exact Nat.le_of_ble_eq_true rfl⟩ (A8g rfl ?_)))
 intro K9
 refine A0d (ix 5 rfl rfl) (A0d .head (B6j (t':=B9a 5 lw lh) (by decide) rfl rfl ⟨by show 1≤4;exact Nat.le_of_ble_eq_true rfl,by show 1≤5;exact Nat.le_of_ble_eq_true rfl⟩ ?_))
 have h5:(B9a 5 lw lh).S5:= .inl rfl
 refine A6g rfl ?_
 intro K9
 refine A6y rfl .head (A4n G (by assumption) rfl rfl (A0b rfl (A3p List.mem_cons_self (by assumption) (A7h (C1o G h5 rfl (by show(0:Nat)≤1000;exact Nat.zero_le _) ?_)))))
 have hl:(B9a 5 lw lh).last+1=1:=rfl
 rw [hl]
 have h5a:(((B9a 5 lw lh).s_last 1).add 1 (Win.new 0 0)).S5:= .inl rfl
 have ga:(((B9a 5 lw lh).s_last 1).add 1 (Win.new 0 0)).get 1=some (Win.new 0 0):=rfl
 refine A0k (.tail (.tail (.tail (.tail (.tail (.tail .head)))))) (A8g rfl ?_)
 intro K9
 refine A0d (ix 1 rfl rfl) (A0d (ix 6 rfl rfl) (B8k (by assumption) (A8g rfl ?_)))
 intro K9
 refine A0d (ix 2 rfl rfl) (A0d (ix 6 rfl rfl) (B3h (Tree.get_put_self (by assumption) _) (A8g rfl ?_)))
 intro K9
 refine A0d (ix 3 rfl rfl) (A0d (ix 6 rfl rfl) (C2h (Tree.get_put_self (Tree.get_put_self (by assumption) _) _) (A8g rfl ?_)))
 intro K9
 refine A2c (ix 6 rfl rfl) (A2q rfl (Tree.get_put_self (Tree.get_put_self (Tree.get_put_self (by assumption) _) _) _) (A0d .head (B6j (t':={wins:= [(1,{Win.new 0 0 with width:=W,height:=H,buf:=b})],last:=1,clock:=0,lw:=lw,lh:=lh,root:=1,sel:=0,stg:=6}) (by decide) rfl rfl ⟨by show 1≤5;exact Nat.le_of_ble_eq_true rfl,by show 1≤6;exact Nat.le_of_ble_eq_true rfl⟩ ?_)))
 have gb:({wins:= [(1,{Win.new 0 0 with width:=W,height:=H,buf:=b})],last:=1,clock:=0,lw:=lw,lh:=lh,root:=1,sel:=0,stg:=6}:Tree).get 1=some {Win.new 0 0 with width:=W,height:=H,buf:=b}:=rfl
 refine A8g rfl ?_
 intro K9
 refine A2c (ix 6 rfl rfl) (A2q rfl (by assumption) (A0d .head (B6j (t':={wins:= [(1,{Win.new 0 0 with width:=W,height:=H,buf:=b})],last:=1,clock:=0,lw:=lw,lh:=lh,root:=1,sel:=1,stg:=7}) (by decide) rfl rfl ⟨by show 1≤6;exact Nat.le_of_ble_eq_true rfl,by show 1≤7;exact Nat.le_of_ble_eq_true rfl⟩ ?_)))
 have gc:({wins:= [(1,{Win.new 0 0 with width:=W,height:=H,buf:=b})],last:=1,clock:=0,lw:=lw,lh:=lh,root:=1,sel:=1,stg:=7}:Tree).get 1=some {Win.new 0 0 with width:=W,height:=H,buf:=b}:=rfl
 have h5c:({wins:= [(1,{Win.new 0 0 with width:=W,height:=H,buf:=b})],last:=1,clock:=0,lw:=lw,lh:=lh,root:=1,sel:=1,stg:=7}:Tree).S5:= .inr (.inr rfl)
 refine A0h ?_
 intro K9
 refine A2g rfl rfl (A6y rfl .head (A4l G (by assumption) rfl rfl (A0b rfl (A2c (ix 6 rfl rfl) (A2q rfl (by assumption) (A0g (C1m G h5c gc (⟨trivial,?_⟩))))))))
 refine A5u (A1z ?_)
 exact h
theorem C0f(G:PG S){W H b lw lh:Int}(h:Q (.ref .tree) (St.mk (some (B5g W H b lw lh)) dk (none) rl tb fid nam loc tmp cfid cnm cel glb)):WC S (d+5) r env S.CT [.int W,.int H,.int b,.int lw,.int lh] (St.mk (none) dk (none) rl tb fid nam loc tmp cfid cnm cel glb) Q X:=
 C9k (σ:=(St.mk (none) dk (none) rl tb fid nam loc tmp cfid cnm cel glb)) G.k_WindowTree.2.2.1 G.k_WindowTree.2.2.2.1 G.k_WindowTree.2.2.2.2 rfl (B2a G ⟨rfl,h⟩)
theorem C2l{W H b:Int}(hW:3≤W)(hH:2≤H)(hW1:W≤1000000)(hH1:H≤1000000):Good (.mk 1 []) (B5g W H b 3 2):=by
 have g:(B5g W H b 3 2).get 1=some {Win.new 0 0 with width:=W,height:=H,buf:=b,use:=1}:=rfl
 refine⟨rfl,rfl,by decide,by simp [B5g],fun k=>by rfl,fun k hk=>?_,⟨W,H,?_,hW1,hH1⟩,?_,by exact .head _,rfl,rfl⟩
 ·have:k=1:=by simpa [Sh.all.e0,Sh.allL.e0,Sh.allL.e1]using hk
  subst this;exact⟨by decide,by show(1:Int)≤1;decide⟩
 ·simp only [Sh.Geo.e0]
  exact B0f _ g rfl rfl rfl rfl (A4x (by simp [Win.new]) (fun _=>⟨rfl,hW,hH⟩) (fun h=>absurd rfl h))
 ·simp only [Sh.Pos.e0]
  exact B7l _ g rfl rfl (by simp [Sh.PosL.e0,Sh.PosL.e1])
theorem C0n{W H b:Int}:A2v (B5g W H b 3 2):=fun k w h=>by
 have:k=1:=by
  by_cases e:k=1
  ·exact e
  ·have:(B5g W H b 3 2).get k=none:=by simp [Tree.get,B5g,List.lookup_cons,beq_eq_false_iff_ne.mpr e]
   rw [this]at h;exact k1 h
 subst this
 have g:(B5g W H b 3 2).get 1=some {Win.new 0 0 with width:=W,height:=H,buf:=b,use:=1}:=rfl
 rw [g]at h;cases h;exact⟨rfl,rfl⟩
end
section
variable {Q:AV→St→Prop}
theorem A1o(G:PG S){xs:List Int}{c m:Int}(h0:0≤c)(hc:c≤900)(hm:0<m)(hx:xs.length≤63)(h: ∀v,0≤v→v<m→Q (.int v) (St.mk tr (some (xs,c+1)) nw rl tb fid nam loc tmp cfid cnm cel glb)):WC S (d+1) r env 381 [.ref .deck,.int m] (St.mk tr (some (xs,c)) nw rl tb fid nam loc tmp cfid cnm cel glb) Q X:=by
 refine C1i G fun L=>?_
 have hmod: ∀a:Int,0≤a.fmod m∧a.fmod m<m:=fun a=>⟨Int.fmod_nonneg_of_pos _ hm,Int.fmod_lt_of_pos _ hm⟩
 refine A0h ?_
 intro K9
 refine A7b rfl (A0t (A5i .head (A6a (i:=1) (b:= .int c) A8a (by decide) (by decide) rfl (fun _ _=>rfl) (A0w (B0a (A0d .head (A0w (C9v (A0a (A4i ?_))))))))))
 intro K9
 refine A3k rfl (A5i .head (A6a (i:=1) (b:= .int (c+1)) A8a (by decide) (by decide) rfl (fun _ _=>rfl) (B2m G List.mem_cons_self rfl rfl (A0b rfl (A5i .head (A6a (i:=0) (b:= .lst (xs.map .int)) A8a (by decide) (by decide) rfl (fun _ _=>rfl) (A0g (A9u (l:=xs.map .int) A1g (by rw [List.length_map];exact Nat.le_trans hx (by decide)) (D5x (isb (⟨fun hb=>?_,fun hb=>?_⟩)))))))))))
 ·have hb:c+1≤xs.length:=by have:=of_decide_eq_true hb;simpa using this
  refine A0h ?_
  intro K9
  refine A0u (A0t (A6i (A5i .head (A6a (i:=0) (b:= .lst (xs.map .int)) A8a (by decide) (by decide) rfl (fun _ _=>rfl) (A0t (A5i .head (A6a (i:=1) (b:= .int (c+1)) A8a (by decide) (by decide) rfl (fun _ _=>rfl) (A0w (B9m ?_)))))))))
  obtain ⟨v,hv⟩: ∃v,xs[(c+1-1).toNat]? =some v:=⟨_,List.getElem?_eq_getElem (by lia)⟩
  refine A6a (i:=c+1-1) (b:= .int v) A1g (by exact Z40 h0) (by lia) (by simp only [List.getElem?_map,hv];rfl) (fun _ _=>rfl) ?_
  refine A0d (ix 1 rfl rfl) (D2b (Int.ne_of_gt hm) (A0m (tri ?_)))
  exact h _ (hmod v).1 (hmod v).2
 ·refine A0x (A6l ?_)
  intro K9
  refine A0u (A0t (A0t (A0t (A0t (A0t (A0t (A5i .head (A6a (i:=1) (b:= .int (c+1)) A8a (by decide) (by decide) rfl (fun _ _=>rfl) (A5i .head (A6a (i:=1) (b:= .int (c+1)) A8a (by decide) (by decide) rfl (fun _ _=>rfl) ?_))))))))))
  skip
  refine B7f (B0p (Int.le_add_one h0) (by exact Int.lt_of_le_of_lt hc (by decide))) (A0w (B7f (B0p (Int.mul_nonneg (Int.le_add_one h0) (Int.le_add_one h0)) (by have:(c+1)* (c+1)≤1000*1000:=Int.mul_le_mul (by exact Int.lt_of_le_of_lt hc (by decide)) (by exact Int.lt_of_le_of_lt hc (by decide)) (Int.le_add_one h0) (by exact(by decide));assumption)) (A0t (A0w (A5i .head (A6a (i:=1) (b:= .int (c+1)) A8a (by decide) (by decide) rfl (fun _ _=>rfl) ?_))))))
  skip
  refine B7f (B0p (by exact(by decide)) (by exact(by decide))) (B0a (A0t (A0w (B2m G List.mem_cons_self rfl rfl (A0b rfl (A5i .head (A6a (i:=0) (b:= .lst (xs.map .int)) A8a (by decide) (by decide) rfl (fun _ _=>rfl) (A0g (A9u (l:=xs.map .int) A1g (by rw [List.length_map];exact Nat.le_trans hx (by decide)) ?_)))))))))
  skip
  refine B7f (B0p (by decide) (by decide)) (B0a (A0w (D2c (by decide) (PyProof.noPylong_small (Nat.le_of_ble_eq_true rfl)) (A0d (ix 1 rfl rfl) (D2b (Int.ne_of_gt hm) (tri ?_))))))
  exact h _ (hmod _).1 (hmod _).2
end
section
variable {fa:Addr} {cd:Value}
theorem D6e(G:PG S)(E:EK S){ns:List Int}{L:Nat}{Q:AF→St→Prop}(hn:ns.length≤63)(h: ∀sh t xs c lv fv nv av,Good sh t→A2v t→sh.all.length≤9→xs.length≤63→0≤c→c≤11→W S (d+12) true ((FL fa cd).env L) (RF S) (execs (A1h.body.drop 3) ((FL fa cd).env L)) (St.mk (some t) (some (xs,c)) none none true L ["script","deck","lap","found","number","axis","shown_window","buffer","row_rule","columns","due","selected","ahead","answer","old","new"] [some (.lst (ns.map .int)),some (.ref .deck),lv,fv,nv,av,none,none,none,none,none,none,none,none,none,none] [] L ["tree"] [some (.ref .tree)] ["WindowTree","_law_draw","range","leaves","len","HEIGHT","WIDTH","split","LispSignal","_law_chosen","pop_to_buffer","Rules","display_buffer","tree_error"]) Q X):
  W S (d+12) true ((FL fa cd).env L) (RF S) (execs A1h.body ((FL fa cd).env L)) (St.mk none none none none true L ["script","deck","lap","found","number","axis","shown_window","buffer","row_rule","columns","due","selected","ahead","answer","old","new"] [some (.lst (ns.map .int)),none,none,none,none,none,none,none,none,none,none,none,none,none,none,none] [] L ["tree"] [none] ["WindowTree","_law_draw","range","leaves","len","HEIGHT","WIDTH","split","LispSignal","_law_chosen","pop_to_buffer","Rules","display_buffer","tree_error"]) Q X:=by
 refine A0h ?_
 intro K9
 refine C4c (A0b rfl (A9f (cl:= []) (g:= ["abs"]) (by with_unfolding_all rfl) rfl (by decide) (fun _=>rfl) (C3y (A0d .head (A8n _ A1g (by simpa using hn) (A6t (cnm':= []) (cel':= []) 0 (fun _=>true) (fun n=> .int (if n<0 then -n else n)) (by exact Nat.le_trans hn (by decide)) rfl rfl ⟨by with_unfolding_all rfl,by decide,rfl,by decide,rfl,fun C=>⟨rfl,rfl,rfl,B2k ⟨by kernel_rfl,by rfl⟩,C3r,B2k ⟨by kernel_rfl,by rfl⟩,by decide⟩,C3r⟩ ?_ ?_ ?_))))))
 ·intro C n hn
  exact C9g
 ·intro C n hn _
  refine B2t (D4c G List.mem_cons_self rfl rfl (A2s .head (b_abs ?_)))
  skip
  exact⟨rfl,rfl⟩
 rw [List.filter_eq_self.mpr (fun _ _=>rfl)]
 refine A7h (B2o (ns.map fun n=>if n<0 then -n else n) 0 (by rw [List.map_map];rfl) rfl ?_)
 have hxl:(ns.map fun n=>if n<0 then -n else n).length≤63:=by rw [List.length_map];exact hn
 generalize (ns.map fun n=>if n<0 then -n else n)=xs at *
 dsimp only
 refine A0k (.tail .head) (A6l ?_)
 intro K9
 refine B8w rfl (B9j G List.mem_cons_self rfl rfl (A0b rfl (A0t (A0w (A1n G (mi 1 rfl) rfl rfl (A4y (ix 1 rfl rfl) (A7h (A1o G (by decide) (by decide) (by decide) hxl fun v1 v10 v11=>B0a (A0b rfl (A0t (A0w (A1n G (mi 1 rfl) rfl rfl (A4y (ix 1 rfl rfl) (A7h ?_))))))))))))))
 refine A1o G (by decide) (by decide) (by decide) hxl fun v2 v20 v21=>B0a (C3p (C3p (A7h (C0f G (D2p .head (A6l ?_))))))
 intro K9
 have g0:=C2l (W:=8+v1) (H:=3+v2) (b:=1) (by lia) (by lia) (by lia) (by lia)
 have p0:=C0n (W:=8+v1) (H:=3+v2) (b:=1)
 generalize B5g (8+v1) (3+v2) 1 3 2=t0 at *
 refine B3j G (mi 2 rfl) rfl (fun _=>rfl) (A0b rfl (A1n G (mi 1 rfl) rfl rfl (A4y (ix 1 rfl rfl) (A7h (A1o G (by decide) (by decide) (by decide) hxl fun v3 v30 v31=>A0g (A8n v3.toNat (by exact(Int.toNat_of_nonneg v30)▸rfl) (by lia) (A0i G.c_HEIGHT fun th eh=>A0i G.c_WIDTH fun tw ew=>?_)))))))
 let I9:List AV→St→Prop:=fun m σ'=> ∃sh t,∃c:Int,∃lv fv nv av,Good sh t∧A2v t∧sh.all.length+2*m.length≤9∧0≤c∧c+2*m.length≤11∧σ'=St.mk (some t) (some (xs,c)) none none true L ["script","deck","lap","found","number","axis","shown_window","buffer","row_rule","columns","due","selected","ahead","answer","old","new"] [some (.lst (ns.map .int)),some (.ref .deck),lv,fv,nv,av,none,none,none,none,none,none,none,none,none,none] [] L ["tree"] [some (.ref .tree)] ["WindowTree","_law_draw","range","leaves","len","HEIGHT","WIDTH","split","LispSignal","_law_chosen","pop_to_buffer","Rules","display_buffer","tree_error"]
 refine C1h I9
  ⟨.mk 1 [],t0,0+1+1+1,none,none,none,none,g0,p0,by simp [Sh.all.e0,Sh.allL.e0,Sh.allL.e1];lia,by decide,by simp;lia,rfl⟩ ?_ ?_
 ·intro a m σ' K9 h9
  refine A7s h9 fun sh t c lv fv y9a=>?_
  try clear h9
  refine B7z y9a fun nv av g hpl hl hc0 hc y9b=>?_
  obtain rfl:=y9b
  simp only [List.length_cons]at hl hc
  have hls:=Sh.leaves_le sh
  have hne:0<sh.leaves.length:=List.length_pos_iff.mpr (List.ne_nil_of_mem g.sel)
  refine A0k (.tail (.tail .head)) (A6g rfl ?_)
  intro K9
  refine A2x G (mi 3 rfl) rfl rfl (A8k .head (A3a G g.stg g.root g.rep (by lia) (A0k (.tail (.tail (.tail .head))) (A0h ?_))))
  intro K9
  refine A5k (x1:= "number") (x2:= "axis") rfl (by kernel_rfl) (A0z (A0b rfl (A6i (A0d (ix 3 rfl rfl) (A1n G (mi 1 rfl) rfl rfl (A4y (ix 1 rfl rfl) (A0b rfl (B2m G (mi 4 rfl) rfl rfl (A2s (ix 3 rfl rfl) (A9u (l:=sh.leaves.map .int) A1g (by rw [List.length_map];lia) (A0g (A1o G hc0 (by lia) (by rw [List.length_map];exact Int.ofNat_le.mpr hne) hxl fun v v0 v1=>?_))))))))))))
  rw [List.length_map]at v1
  obtain ⟨n,hnv⟩: ∃n,sh.leaves[v.toNat]? =some n:=⟨_,List.getElem?_eq_getElem (by lia)⟩
  have hnl:n∈sh.leaves:=List.mem_of_getElem? hnv
  skip
  refine A6a (i:=v) (b:= .int n) A1g v0 (by lia) (by simp only [List.getElem?_map,hnv];rfl) (fun _ _=>rfl) ?_
  refine A0b rfl (A6i (A5j (A0b rfl (A3p (mi 5 rfl) (by assumption) (A0b rfl (A3p (mi 6 rfl) (by assumption) (A0g (⟨Nat.le_of_ble_eq_true rfl,?_⟩))))))))
  refine A1n G (mi 1 rfl) rfl rfl (A4y (ix 1 rfl rfl) (A7h (A1o G (Int.le_add_one hc0) (by lia) (by decide) hxl fun u u0 u1=>?_)))
  skip
  have hu:u=0∨u=1:=by lia
  refine A6a (i:=u) (b:= .int (1-u)) A1g u0 (by lia) (by rcases hu with rfl|rfl <;> rfl) (fun _ _=>rfl) ?_
  have ha:1-u=0∨1-u=1:=by lia
  generalize 1-u=a at *
  refine A0g (⟨Nat.le_of_ble_eq_true rfl,?_⟩)
  refine ts2 (A0k (.tail (.tail (.tail (.tail (.tail .head))))) (A0k (.tail (.tail (.tail (.tail .head)))) (A6l ?_)))
  intro K9
  refine D3z G E.toEX (A0h ?_)
  intro K9
  refine A2g rfl rfl (C0t G (mi 7 rfl) rfl rfl (C2i .head (A4y (ix 4 rfl rfl) (A0b rfl (A5w (A4y (ix 5 rfl rfl) (A0b rfl (C1q (A0g (A5l (g.leaf hnl) fun w g2 h0 hk l3 l2 y9a=>A0f y9a fun lW lH=>?_))))))))))
  have hw:0≤w.sz a∧w.sz a≤1000000:=by rcases ha with rfl|rfl <;> simp [Win.sz] <;> omega
  by_cases hb:t.least a≤w.sz a- (w.sz a).fdiv 2∧t.least a≤(w.sz a).fdiv 2
  ·refine A9b G g hnl (by lia) ha hpl g2 hb fun n' sh' t' hr=>⟨trivial,?_⟩
   refine A5u (A0a (A5u (A0a ?_)))
   exact C1e sh' t' _ _ _ (C7z _ _ hr.good hr.plain (by have:=hr.len;lia) (by exact Z41 hc0) (by exact Z42 hc) rfl)
  ·refine C6a G E g.stg g2 h0 hk hw hb (⟨List.mem_cons_of_mem _ (mi 7 rfl),?_⟩)
   refine A5u (A0a ?_)
   exact C1e sh t _ _ _ (C7z _ _ g hpl (by lia) (by exact Z41 hc0) (by exact Z42 hc) rfl)
 ·intro σ' h9
  refine A7s h9 fun sh t c lv fv y9a=>?_
  try clear h9
  refine B7z y9a fun nv av g hpl hl hc0 hc y9b=>?_
  obtain rfl:=y9b
  exact h sh t xs c lv fv nv av g hpl (by simpa using hl) hxl hc0 (by simpa using hc)
end
theorem A2v.put(hp:A2v t){w':Win}(h:w'.ear= .lst []∧w'.lat= .lst []):A2v (t.put n w'):=fun k v hk=>by
 by_cases e:k=n
 ·subst e
  cases q:t.get k with
  |none=>rw [Tree.get_put,if_pos rfl,q]at hk;exact k1 hk
  |some w0=>rw [Tree.get_put_self q]at hk;cases hk;exact h
 ·rw [Tree.get_put_ne e]at hk;exact hp k v hk
theorem A2v.meta{t':Tree}(hp:A2v t)(h:t'.wins=t.wins):A2v t':=fun k v hk=>hp k v (by unfold Tree.get at hk ⊢;refine(congrArg _ (h).symm).trans ?_;exact hk)
theorem A2v.selT(hp:A2v t)(h2:t.get n=some w):A2v (t.selT n w):=(hp.meta (t':=(t.s_sel n).s_clock (t.clock+1)) rfl).put (hp n w h2)
theorem A2v.touchT(hp:A2v t)(h2:t.get n=some w):A2v (t.touchT n w):=(hp.meta (t':=t.s_clock (t.clock+1)) rfl).put (hp n w h2)
theorem C4g(h2:t.get n=some w)(k:Int):(t.touchT n w).get k=if k=n then some (w.s_use (t.clock+1))else t.get k:=by
 unfold Tree.touchT
 split
 ·subst_vars;exact Tree.get_put_self (w:=w) (by simp only [Tree.get_s_clock];exact h2) _
 ·rename_i e;simp only [Tree.get_put_ne e,Tree.get_s_clock]
theorem C0r(h2:t.get n=some w)(k:Int):(t.selT n w).get k=if k=n then some (w.s_use (t.clock+1))else t.get k:=by
 unfold Tree.selT
 split
 ·subst_vars;exact Tree.get_put_self (w:=w) (by simp only [Tree.get_s_clock,Tree.get_s_sel];exact h2) _
 ·rename_i e;simp only [Tree.get_put_ne e,Tree.get_s_clock,Tree.get_s_sel]
noncomputable def B2b(t:Tree)(P:List Int):Prop:=(∀a∈P,t.use a≤t.clock)∧ ∀a∈P,∀b∈P,t.use a=t.use b→a=b
theorem B2b.turn{t':Tree}{P:List Int}(u:B2b t P)(hc:t'.clock=t.clock+1)(hk: ∀k,t'.use k=if k=n then t.clock+1 else t.use k):B2b t' (n::P):=by
 have h1: ∀a∈P,t'.use a≤t.clock∨a=n:=fun a ha=>by
  by_cases e:a=n
  ·exact .inr e
  ·rw [hk,if_neg e];exact .inl (u.1 a ha)
 have hn:t'.use n=t.clock+1:=by rw [hk,if_pos rfl]
 refine⟨fun a ha=>?_,fun a ha b hb e=>?_⟩
 ·simp only [hc]
  rcases List.mem_cons.mp ha with rfl|ha
  ·exact Int.le_of_eq hn
  ·rcases h1 a ha with q|q
   ·exact Int.le_add_one q
   ·subst q;exact Int.le_of_eq hn
 ·have ka:a=n∨(a∈P∧a≠n):=by
   by_cases q:a=n
   ·exact .inl q
   ·exact .inr ⟨(List.mem_cons.mp ha).resolve_left q,q⟩
  have kb:b=n∨(b∈P∧b≠n):=by
   by_cases q:b=n
   ·exact .inl q
   ·exact .inr ⟨(List.mem_cons.mp hb).resolve_left q,q⟩
  rcases ka with rfl| ⟨pa,na⟩ <;> rcases kb with rfl| ⟨pb,nb⟩
  ·rfl
  ·rw [hn,hk,if_neg nb]at e;have:=u.1 b pb;lia
  ·rw [hn,hk,if_neg na]at e;have:=u.1 a pa;lia
  ·rw [hk,hk,if_neg na,if_neg nb]at e;exact u.2 a pa b pb e
theorem B2b.touchT{P:List Int}(u:B2b t P)(h2:t.get n=some w):B2b (t.touchT n w) (n::P):=
 u.turn rfl fun k=>by unfold Tree.use;rw [C4g h2];split <;> rfl
theorem B2b.selT{P:List Int}(u:B2b t P)(h2:t.get n=some w)(hn:n∈P):B2b (t.selT n w) P:=by
 have q:B2b (t.selT n w) (n::P):=u.turn rfl fun k=>by unfold Tree.use;rw [C0r h2];split <;> rfl
 exact⟨fun a ha=>q.1 a (.tail _ ha),fun a ha b hb=>q.2 a (.tail _ ha) b (.tail _ hb)⟩
section
variable {fa:Addr} {cd:Value}
theorem D6d(G:PG S){ns xs:List Int}{L:Nat}{c:Int}{sh:Sh}{lv fv nv av:Option AV}{Q:AF→St→Prop}(g:Good sh t)(pl:A2v t)(hl:sh.all.length≤9)(hx:xs.length≤63)(h0:0≤c)(hc:c≤11)
  (h: ∀t c nv sv,Good sh t→A2v t→0≤c→c≤29→W S (d+12) true ((FL fa cd).env L) (RF S) (execs (A1h.body.drop 4) ((FL fa cd).env L)) (St.mk (some t) (some (xs,c)) none none (true) L ["script","deck","lap","found","number","axis","shown_window","buffer","row_rule","columns","due","selected","ahead","answer","old","new"] [some (.lst (ns.map .int)),some (.ref .deck),lv,fv,nv,av,sv,none,none,none,none,none,none,none,none,none] [] L ["tree"] [some (.ref .tree)] ["WindowTree","_law_draw","range","leaves","len","HEIGHT","WIDTH","split","LispSignal","_law_chosen","pop_to_buffer","Rules","display_buffer","tree_error"]) Q X):
  W S (d+12) true ((FL fa cd).env L) (RF S) (execs (A1h.body.drop 3) ((FL fa cd).env L)) (St.mk (some t) (some (xs,c)) none none (true) L ["script","deck","lap","found","number","axis","shown_window","buffer","row_rule","columns","due","selected","ahead","answer","old","new"] [some (.lst (ns.map .int)),some (.ref .deck),lv,fv,nv,av,none,none,none,none,none,none,none,none,none,none] [] L ["tree"] [some (.ref .tree)] ["WindowTree","_law_draw","range","leaves","len","HEIGHT","WIDTH","split","LispSignal","_law_chosen","pop_to_buffer","Rules","display_buffer","tree_error"]) Q X:=by
 have hls:=Sh.leaves_le sh
 refine A4e (rest:=A1h.body.drop 4) ?_
 generalize A1h.body.drop 4=BB at h ⊢
 refine B1l (fun _=>rfl) (A2x G (mi 3 rfl) rfl rfl (A8k .head (A3a G g.stg g.root g.rep (by exact Nat.le_trans hl (by decide)) (D1i ?_))))
 let I9:List Int→St→Prop:=fun rest σ'=> ∃t,∃c:Int,∃nv sv,(∀k∈rest,k∈sh.leaves)∧Good sh t∧A2v t∧0≤c∧c+2*rest.length≤29∧σ'=(St.mk (some t) (some (xs,c)) none none (true) L ["script","deck","lap","found","number","axis","shown_window","buffer","row_rule","columns","due","selected","ahead","answer","old","new"] [some (.lst (ns.map .int)),some (.ref .deck),lv,fv,nv,av,sv,none,none,none,none,none,none,none,none,none] [] L ["tree"] [some (.ref .tree)] ["WindowTree","_law_draw","range","leaves","len","HEIGHT","WIDTH","split","LispSignal","_law_chosen","pop_to_buffer","Rules","display_buffer","tree_error"])
 refine A9l I9 rfl
  ⟨t,c,nv,none,fun _ h=>h,g,pl,h0,by lia,rfl⟩ ?_ ?_
 ·intro k rest σ' K9 h9
  refine B5u h9 fun t c nv sv hin g pl h0 y9a=>?_
  try clear h9
  refine A0f y9a fun hc y9b=>?_
  obtain rfl:=y9b
  simp only [List.length_cons]at hc
  refine A0e (g.leaf (hin k (.head _))) fun w g2 _=>?_
  have h5:=Tree.s5 g.stg
  refine A0k (.tail (.tail (.tail (.tail .head)))) (A6g rfl ?_)
  intro K9
  refine A9m .head (ix 4 rfl rfl) (by assumption) (by assumption) rfl (A0k (.tail (.tail (.tail (.tail (.tail (.tail .head)))))) (A0h ?_))
  intro K9
  refine A2g rfl rfl (A6y rfl (ix 6 rfl rfl) (A5z G (by assumption) rfl rfl (A0b rfl (A0z (A0b rfl (A0t (A0w (A1n G (mi 1 rfl) rfl rfl (A4y (ix 1 rfl rfl) (A7h (A1o G h0 (by lia) (by decide) hx fun v v0 v1=>B0a (C3p (C3p (A7h ?_))))))))))))))
  refine⟨Nat.le_of_ble_eq_true rfl,?_⟩
  refine A0g (C2e G g2 ?_)
  have g3:(t.put k (w.show4 (1+v) 1 1 0)).get k=some (w.show4 (1+v) 1 1 0):=Tree.get_put_self g2 _
  have G1:Good sh (t.put k (w.show4 (1+v) 1 1 0)):=g.put g2 ⟨rfl,rfl,rfl,rfl,rfl⟩ rfl rfl
  have P1:A2v (t.put k (w.show4 (1+v) 1 1 0)):=pl.put (pl k w g2)
  have pw:=pl k w g2
  refine⟨trivial,?_⟩
  refine A0a (A8g rfl ?_)
  intro K9
  refine B8t rfl (A1n G (mi 1 rfl) rfl rfl (A4y (ix 1 rfl rfl) (A7h (A1o G (Int.le_add_one h0) (by lia) (by decide) hx fun u u0 u1=>A0w (D3q (A0d (ix 6 rfl rfl) (B6a (by assumption) (A0x (A0a ?_)))))))))
  have G2:Good sh ((t.put k (w.show4 (1+v) 1 1 0)).put k ((w.show4 (1+v) 1 1 0).s_ded (u == 0))):=G1.put g3 ⟨rfl,rfl,rfl,rfl,rfl⟩ rfl rfl
  have P2:A2v ((t.put k (w.show4 (1+v) 1 1 0)).put k ((w.show4 (1+v) 1 1 0).s_ded (u == 0))):=P1.put pw
  exact C5p _ (c+1+1) _ _ (fun j hj=>hin j (.tail _ hj)) G2 P2 (by exact Z41 h0) (A8b (by lia) rfl)
 ·intro σ' h9
  refine B5u h9 fun t c nv sv hin g pl h0 y9a=>?_
  try clear h9
  refine A0f y9a fun hc y9b=>?_
  obtain rfl:=y9b
  exact h t c nv sv g pl h0 (by lia)
theorem D6c(G:PG S){ns xs:List Int}{L:Nat}{c:Int}{sh:Sh}{lv fv nv av sv:Option AV}{Q:AF→St→Prop}(g:Good sh t)(pl:A2v t)(hl:sh.all.length≤9)(hx:xs.length≤63)(h0:0≤c)(hc:c≤29)
  (h: ∀t c lv fv,Good sh t→A2v t→0≤c→c≤33→W S (d+12) true ((FL fa cd).env L) (RF S) (execs (A1h.body.drop 5) ((FL fa cd).env L)) (St.mk (some t) (some (xs,c)) none none (true) L ["script","deck","lap","found","number","axis","shown_window","buffer","row_rule","columns","due","selected","ahead","answer","old","new"] [some (.lst (ns.map .int)),some (.ref .deck),lv,fv,nv,av,sv,none,none,none,none,none,none,none,none,none] [] L ["tree"] [some (.ref .tree)] ["WindowTree","_law_draw","range","leaves","len","HEIGHT","WIDTH","split","LispSignal","_law_chosen","pop_to_buffer","Rules","display_buffer","tree_error"]) Q X):
  W S (d+12) true ((FL fa cd).env L) (RF S) (execs (A1h.body.drop 4) ((FL fa cd).env L)) (St.mk (some t) (some (xs,c)) none none (true) L ["script","deck","lap","found","number","axis","shown_window","buffer","row_rule","columns","due","selected","ahead","answer","old","new"] [some (.lst (ns.map .int)),some (.ref .deck),lv,fv,nv,av,sv,none,none,none,none,none,none,none,none,none] [] L ["tree"] [some (.ref .tree)] ["WindowTree","_law_draw","range","leaves","len","HEIGHT","WIDTH","split","LispSignal","_law_chosen","pop_to_buffer","Rules","display_buffer","tree_error"]) Q X:=by
 have hls:=Sh.leaves_le sh
 have hne:0<sh.leaves.length:=List.length_pos_iff.mpr (List.ne_nil_of_mem g.sel)
 refine A4e (rest:=A1h.body.drop 5) ?_
 generalize A1h.body.drop 5=BB at h ⊢
 refine B3j G (mi 2 rfl) rfl (fun _=>rfl) (A7h (A8n 4 rfl (Nat.le_of_ble_eq_true rfl) ?_))
 let I9:List AV→St→Prop:=fun m σ'=> ∃t,∃c:Int,∃lv fv,Good sh t∧A2v t∧0≤c∧c+m.length≤33∧σ'=(St.mk (some t) (some (xs,c)) none none (true) L ["script","deck","lap","found","number","axis","shown_window","buffer","row_rule","columns","due","selected","ahead","answer","old","new"] [some (.lst (ns.map .int)),some (.ref .deck),lv,fv,nv,av,sv,none,none,none,none,none,none,none,none,none] [] L ["tree"] [some (.ref .tree)] ["WindowTree","_law_draw","range","leaves","len","HEIGHT","WIDTH","split","LispSignal","_law_chosen","pop_to_buffer","Rules","display_buffer","tree_error"])
 refine C1h I9
  ⟨t,c,lv,fv,g,pl,h0,by simp;exact Int.add_le_add_right hc _,rfl⟩ ?_ ?_
 ·intro a m σ' K9 h9
  refine B5u h9 fun t c lv fv g pl h0 hc y9a=>?_
  try clear h9
  obtain rfl:=y9a
  simp only [List.length_cons]at hc
  have h5:=Tree.s5 g.stg
  refine A0k (.tail (.tail .head)) (A6g rfl ?_)
  intro K9
  refine A2x G (mi 3 rfl) rfl rfl (A8k .head (A3a G g.stg g.root g.rep (by exact Nat.le_trans hl (by decide)) (A0k (.tail (.tail (.tail .head))) (A0h ?_))))
  intro K9
  refine A2g rfl rfl (A6z rfl (A8v .head (A4f G (by assumption) rfl rfl (A0b rfl (A6i (A0d (ix 3 rfl rfl) (A1n G (mi 1 rfl) rfl rfl (A4y (ix 1 rfl rfl) (A0b rfl (B2m G (mi 4 rfl) rfl rfl (A2s (ix 3 rfl rfl) (A9u (l:=sh.leaves.map .int) A1g (by rw [List.length_map];exact Nat.le_trans hls (Nat.le_trans hl (by decide))) (A0g (A1o G h0 (by lia) (by rw [List.length_map];exact Int.ofNat_le.mpr hne) hx fun v v0 v1=>?_))))))))))))))
  rw [List.length_map]at v1
  obtain ⟨n,hnv⟩: ∃n,sh.leaves[v.toNat]? =some n:=⟨_,List.getElem?_eq_getElem (by exact Z43 hne v1)⟩
  have hnl:n∈sh.leaves:=List.mem_of_getElem? hnv
  refine A2u (g.leaf hnl) fun w g2 w0 _=>?_
  skip
  refine A6a (i:=v) (b:= .int n) A1g v0 (by exact Z44 hl hls v1) (by simp only [List.getElem?_map,hnv];rfl) (fun _ _=>rfl) ?_
  refine A0g (B8f G g.stg g2 w0 ?_)
  have g3:=g.selT g2 hnl
  have p3:=pl.selT g2
  unfold Tree.selT at g3 p3
  refine⟨trivial,?_⟩
  refine A5u (A0a ?_)
  exact C5p _ _ _ _ g3 p3 (Int.le_add_one h0) (by lia) rfl
 ·intro σ' h9
  refine B5u h9 fun t c lv fv g pl h0 hc y9a=>?_
  try clear h9
  obtain rfl:=y9a
  exact h t c lv fv g pl h0 (by simpa using hc)
theorem D6b(G:PG S){ns xs:List Int}{L:Nat}{c:Int}{sh:Sh}{lv fv nv av sv:Option AV}{Q:AF→St→Prop}(g:Good sh t)(pl:A2v t)(hl:sh.all.length≤9)
  (h: ∀t nv,Good sh t→A2v t→(∃P,B2b t P∧ ∀a∈sh.leaves,a∈P)→W S (d+12) true ((FL fa cd).env L) (RF S) (execs (A1h.body.drop 6) ((FL fa cd).env L)) (St.mk (some t) (some (xs,c)) none none (true) L ["script","deck","lap","found","number","axis","shown_window","buffer","row_rule","columns","due","selected","ahead","answer","old","new"] [some (.lst (ns.map .int)),some (.ref .deck),lv,fv,nv,av,sv,none,none,none,none,none,none,none,none,none] [] L ["tree"] [some (.ref .tree)] ["WindowTree","_law_draw","range","leaves","len","HEIGHT","WIDTH","split","LispSignal","_law_chosen","pop_to_buffer","Rules","display_buffer","tree_error"]) Q X):
  W S (d+12) true ((FL fa cd).env L) (RF S) (execs (A1h.body.drop 5) ((FL fa cd).env L)) (St.mk (some t) (some (xs,c)) none none (true) L ["script","deck","lap","found","number","axis","shown_window","buffer","row_rule","columns","due","selected","ahead","answer","old","new"] [some (.lst (ns.map .int)),some (.ref .deck),lv,fv,nv,av,sv,none,none,none,none,none,none,none,none,none] [] L ["tree"] [some (.ref .tree)] ["WindowTree","_law_draw","range","leaves","len","HEIGHT","WIDTH","split","LispSignal","_law_chosen","pop_to_buffer","Rules","display_buffer","tree_error"]) Q X:=by
 have hls:=Sh.leaves_le sh
 refine A4e (rest:=A1h.body.drop 6) ?_
 generalize A1h.body.drop 6=BB at h ⊢
 refine B1l (fun _=>rfl) (A2x G (mi 3 rfl) rfl rfl (A8k .head (A3a G g.stg g.root g.rep (by exact Nat.le_trans hl (by decide)) (D1i ?_))))
 let I9:List Int→St→Prop:=fun rest σ'=> ∃t,∃P:List Int,∃nv,(∀k∈rest,k∈sh.leaves)∧Good sh t∧A2v t∧B2b t P∧(∀a∈sh.leaves,a∈rest∨a∈P)∧σ'=(St.mk (some t) (some (xs,c)) none none (true) L ["script","deck","lap","found","number","axis","shown_window","buffer","row_rule","columns","due","selected","ahead","answer","old","new"] [some (.lst (ns.map .int)),some (.ref .deck),lv,fv,nv,av,sv,none,none,none,none,none,none,none,none,none] [] L ["tree"] [some (.ref .tree)] ["WindowTree","_law_draw","range","leaves","len","HEIGHT","WIDTH","split","LispSignal","_law_chosen","pop_to_buffer","Rules","display_buffer","tree_error"])
 refine A9l I9 rfl
  ⟨t,[],nv,fun _ h=>h,g,pl,⟨(fun a ha=>nomatch ha),(fun a ha=>nomatch ha)⟩,fun a ha=> .inl ha,rfl⟩ ?_ ?_
 ·intro k rest σ' K9 h9
  refine D3d h9 fun t P nv hin g pl u y9a=>?_
  try clear h9
  refine A0f y9a fun hP y9b=>?_
  obtain rfl:=y9b
  refine A0e (g.leaf (hin k (.head _))) fun w g2 _=>?_
  have h5:=Tree.s5 g.stg
  refine A0k (.tail (.tail (.tail (.tail .head)))) (A0h ?_)
  intro K9
  refine A2g rfl rfl (A6z rfl (A8v .head (A4l G (by assumption) rfl rfl (A2s (ix 4 rfl rfl) (C1m G h5 g2 ?_)))))
  have g3:=g.touchT g2
  have p3:=pl.touchT g2
  have u3:=u.touchT g2
  unfold Tree.touchT at g3 p3 u3
  refine⟨trivial,?_⟩
  refine A5u (A0a ?_)
  exact D4p _ (k::P) _ (fun j hj=>hin j (.tail _ hj)) g3 p3 u3 (A8b (fun a ha=>(hP a ha).elim (fun q=>(List.mem_cons.mp q).elim (fun e=> .inr (e▸ .head _)) .inl) fun q=> .inr (.tail _ q)) rfl)
 ·intro σ' h9
  refine D3d h9 fun t P nv hin g pl u y9a=>?_
  try clear h9
  refine A0f y9a fun hP y9b=>?_
  obtain rfl:=y9b
  exact h t nv g pl ⟨P,u,fun a ha=>(hP a ha).resolve_left (by simp)⟩
theorem D6a(G:PG S){ns xs:List Int}{L:Nat}{c:Int}{sh:Sh}{lv fv nv av sv:Option AV}{Q:AF→St→Prop}(g:Good sh t)(pl:A2v t)(hl:sh.all.length≤9)(hu: ∃P,B2b t P∧ ∀a∈sh.leaves,a∈P)(hx:xs.length≤63)(h0:0≤c)(hc:c≤33)
  (h: ∀t,Good sh t→A2v t→(∀a∈sh.leaves,∀b∈sh.leaves,t.use a=t.use b→a=b)→W S (d+12) true ((FL fa cd).env L) (RF S) (execs (A1h.body.drop 7) ((FL fa cd).env L)) (St.mk (some t) (some (xs,c+1)) none none (true) L ["script","deck","lap","found","number","axis","shown_window","buffer","row_rule","columns","due","selected","ahead","answer","old","new"] [some (.lst (ns.map .int)),some (.ref .deck),lv,fv,nv,av,sv,none,none,none,none,none,none,none,none,none] [] L ["tree"] [some (.ref .tree)] ["WindowTree","_law_draw","range","leaves","len","HEIGHT","WIDTH","split","LispSignal","_law_chosen","pop_to_buffer","Rules","display_buffer","tree_error"]) Q X):
  W S (d+12) true ((FL fa cd).env L) (RF S) (execs (A1h.body.drop 6) ((FL fa cd).env L)) (St.mk (some t) (some (xs,c)) none none (true) L ["script","deck","lap","found","number","axis","shown_window","buffer","row_rule","columns","due","selected","ahead","answer","old","new"] [some (.lst (ns.map .int)),some (.ref .deck),lv,fv,nv,av,sv,none,none,none,none,none,none,none,none,none] [] L ["tree"] [some (.ref .tree)] ["WindowTree","_law_draw","range","leaves","len","HEIGHT","WIDTH","split","LispSignal","_law_chosen","pop_to_buffer","Rules","display_buffer","tree_error"]) Q X:=by
 have hls:=Sh.leaves_le sh
 have hne:0<sh.leaves.length:=List.length_pos_iff.mpr (List.ne_nil_of_mem g.sel)
 have h5:=Tree.s5 g.stg
 refine A0e hu fun P u hP=>?_
 try clear hu
 refine A4e (rest:=A1h.body.drop 7) ?_
 generalize A1h.body.drop 7=BB at h ⊢
 refine A2g rfl rfl (A6z rfl (A8v .head (A4f G (by assumption) rfl rfl (A0b rfl (A6i (A2x G (mi 3 rfl) rfl rfl (A8k .head (A3a G g.stg g.root g.rep (by exact Nat.le_trans hl (by decide)) (A1n G (mi 1 rfl) rfl rfl (A4y (ix 1 rfl rfl) (A0b rfl (B2m G (mi 4 rfl) rfl rfl (A0b rfl (A2x G (mi 3 rfl) rfl rfl (A8k .head ?_)))))))))))))))
 refine A3a G g.stg g.root g.rep (by exact Nat.le_trans hl (by decide)) (A0g (A9u (l:=sh.leaves.map .int) A1g (by rw [List.length_map];exact Nat.le_trans hls (Nat.le_trans hl (by decide))) (A0g (A1o G h0 (by exact Int.le_trans hc (by decide)) (by rw [List.length_map];exact Int.ofNat_le.mpr hne) hx fun v v0 v1=>?_))))
 rw [List.length_map]at v1
 obtain ⟨n,hnv⟩: ∃n,sh.leaves[v.toNat]? =some n:=⟨_,List.getElem?_eq_getElem (by exact Z43 hne v1)⟩
 have hnl:n∈sh.leaves:=List.mem_of_getElem? hnv
 refine A2u (g.leaf hnl) fun w g2 w0 _=>?_
 skip
 refine A6a (i:=v) (b:= .int n) A1g v0 (by exact Z44 hl hls v1) (by simp only [List.getElem?_map,hnv];rfl) (fun _ _=>rfl) ?_
 refine A0g (B8f G g.stg g2 w0 ?_)
 have g3:=g.selT g2 hnl
 have p3:=pl.selT g2
 have u3:=u.selT g2 (hP n hnl)
 unfold Tree.selT at g3 p3 u3
 refine⟨trivial,?_⟩
 refine A0a ?_
 exact h _ g3 p3 fun a ha b hb=>u3.2 a (hP a ha) b (hP b hb)
end
theorem C0j{ks:List Int}{l:List AV}{Q:AV→St→Prop}(hb:ks.length≤100000)(h:Q (.int ks.length) (St.mk (tr) dk nw rl tb fid nam loc tmp cfid cnm cel glb)):WB S d r env (.builtin "len") [.dic ks l] (St.mk (tr) dk nw rl tb fid nam loc tmp cfid cnm cel glb) Q X:=fun A P z y Φ s vs hA hs hv=>by
 refine A1x hv.uncons fun v rr y9a hv1 hr=>?_
 obtain rfl:=y9a
 have:rr= []:=hr
 subst this
 refine B4q (B1b hv1) fun c o us y9a hn hz hd hk hl=>?_
 try clear hv1
 obtain rfl:=y9a
 have g1:s.heap.DictOf (intKind S.prog S.w) c (ks.zip us):=Heap.dictOf_iff.mpr ⟨o,hs.core.zin _ _ hz,hd⟩
 have hlen:(ks.zip us).length=ks.length:=by simp only [List.length_zip,←hk,Nat.min_self]
 refine call_len_dict (by simpa using hn) g1 (by rw [hlen];lia) ?_
 simp only [hlen]
 exact Res.of (b:= .int ks.length) (hs.tok _) B5f h
theorem B9w{l:List Int}{x:Str}{kx vx:Expr}{scope:Scope}{cl:List (Str×Addr)}{g:List Str}{Q:AV→St→Prop}{cnm':List Str}{cel':List (Option AV)}(k:Nat)(f:Int→AV)(hl:l.length≤100000)(hnd:l.Nodup)(hc:cnm.take k=cnm')(hc2:cel.take k=cel')(O:CompOK env scope cl x cnm' g)
  (ht: ∀C,∀n∈l,B1k S d (compEnvC scope cl C env) (St.mk tr dk nw rl tb C [x] [some (.int n)] [] cfid cnm' cel' g) kx (.int n)) (he: ∀C,∀n∈l,B1k S d (compEnvC scope cl C env) (St.mk tr dk nw rl tb C [x] [some (.int n)] [] cfid cnm' cel' g) vx (f n))
  (h:Q (.dic l (l.map f)) (St.mk (tr) dk nw rl tb fid nam loc tmp cfid cnm cel glb)):D1e S d env scope cl x kx vx g (.lst (l.map .int)) (St.mk (tr) dk nw rl tb fid nam loc tmp cfid cnm cel glb) Q:=by
 subst hc hc2
 exact D2r l k f rfl hl hnd O ht (A8b he h)
mutual
theorem Sh.leaves_sub: ∀s:Sh,s.leaves.Sublist s.all
 | .mk n []=>by simp [Sh.leaves.e0,Sh.leaves.e1,Sh.all.e0,Sh.allL.e0,Sh.allL.e1]
 | .mk n (k::ks)=>by
  have h1:=Sh.leaves_sub k;have h2:=Sh.leavesL_sub ks
  simp only [Sh.leaves.e0,Sh.leaves.e1,Sh.all.e0,Sh.allL.e0,Sh.allL.e1]
  exact .cons _ (h1.append h2)
theorem Sh.leavesL_sub: ∀l:List Sh,(Sh.leavesL l).Sublist (Sh.allL l)
 | []=>by simp [Sh.leavesL.e0,Sh.leavesL.e1]
 |k::ks=>by
  have h1:=Sh.leaves_sub k;have h2:=Sh.leavesL_sub ks
  simp only [Sh.leavesL.e0,Sh.leavesL.e1,Sh.allL.e0,Sh.allL.e1]
  exact h1.append h2
end
theorem D4f{value slice:Expr}{ks:List Int}{b:AV}{l:List AV}{i:Int}{Q:AV→St→Prop}(hb:(ks.zip l).lookup i=some b)(hsl: ∀o i,subscripted slice false o i=operate [o,i] (getItem o i))(h:Q b (St.mk (tr) dk nw rl tb fid nam loc tmp cfid cnm cel glb)):
  W1 S d r env (R2 S) (RV S) (fun v:Value×Value=>subscriptTail value slice v.1 v.2) (.dic ks l,.int i) (St.mk (tr) dk nw rl tb fid nam loc tmp cfid cnm cel glb) Q X:=D4u hb hsl h
noncomputable def A1j(t:Tree)(n:Int):AV:=((t.get n).map Win.shownAV).getD .none
theorem C6o{l:List Int}{rr cc a:Int}(h:swF t l rr cc=some (n,a)):a=0∨a=1:=by
 have hd: ∀{k rr cc x:Int},t.dir k rr cc=some x→x=0∨x=1:=fun{k rr cc x} e=>by
  unfold Tree.dir at e
  split at e
  ·exact (C5x e).1
  ·exact k1 e
 unfold swF at h
 split at h
 ·rename_i e;cases h;exact hd e
 ·split at h
  ·rename_i e;cases h;exact hd e
  ·split at h
   ·refine A0e (Option.map_eq_some_iff.mp h) fun x e q=>?_
    cases q;exact hd e
   ·exact k1 h
noncomputable def C3s(t t':Tree):Prop:= ∀k w,t.get k=some w→ ∃w',t'.get k=some w'∧w'.shownAV=w.shownAV∧w'.buf=w.buf∧w'.left=w.left∧w'.top=w.top
theorem C3s.refl(t:Tree):C3s t t:=fun k w h=>⟨w,h,rfl,rfl,rfl,rfl⟩
theorem C3s.selT(h2:t.get n=some w):C3s t (t.selT n w):=fun k v h=>by
 by_cases e:k=n
 ·subst e;rw [h2]at h;cases h
  exact D0q (w.s_use (t.clock+1)) (by rw [C0r h2,if_pos rfl]) rfl rfl rfl rfl
 ·exact D0q v (by rw [C0r h2,if_neg e];exact h) rfl rfl rfl rfl
theorem C3s.shown{t':Tree}(h:C3s t t')(hk:t.get n=some w):A1j t' n=A1j t n:=by
 refine A2u (h _ _ hk) fun w' e q _=>?_
 simp [A1j,e,hk,q]
theorem C3s.buf{t':Tree}(h:C3s t t')(hk:t.get n=some w):t'.buf n=w.buf:=by
 refine A6d (h _ _ hk) fun w' e _ q _=>?_
 simp [Tree.buf,e,q]
noncomputable def A8f(sh:Sh)(t:Tree)(b rr cc:Int):Prop:=A3u t sh.leaves b= []∧swF t sh.leaves rr cc=none∧A7j t sh.leaves=0
theorem C1l{sh:Sh}{b rr cc:Int}(h:A8f sh t b rr cc):A2z t sh.leaves b rr cc= .tup [.str (Str.ofString "none")]:=by
 refine A1a h fun h1 h2 h3=>?_
 try clear h
 unfold A2z
 rw [h1];dsimp only
 rw [h2];dsimp only
 exact(if_pos h3)
theorem C1k{sh:Sh}{b rr cc:Int}(h: ¬A8f sh t b rr cc): ∃x l,A2z t sh.leaves b rr cc= .tup (.str x::l)∧x≠Str.ofString "none":=by
 unfold A2z
 cases e1:A3u t sh.leaves b with
 |cons k rest=>exact⟨_,_,rfl,by decide⟩
 |nil=>
  dsimp only
  cases e2:swF t sh.leaves rr cc with
  |some p=>exact⟨_,_,rfl,by decide⟩
  |none=>
   dsimp only
   rw [if_neg (fun q=>h ⟨e1,e2,q⟩)]
   exact D0p _ _ rfl (by decide)
structure EndSame (sh:Sh) (t:Tree) (b f:Int) (t':Tree) (due:AV):Prop where
 due: ∃x,x≠Str.ofString "none"∧x≠Str.ofString "split"∧due= .tup [.str x,.int f]
 mem:f∈sh.leaves
 olds: ∀k∈sh.leaves,k≠f→A1j t' k=A1j t k
 buf:t'.buf f=b
structure EndSplit (sh:Sh) (t:Tree) (b f:Int) (sh':Sh) (t':Tree) (due:AV):Prop where
 ex: ∃n a wn wm,(a=0∨a=1)∧due= .tup [.str (Str.ofString "split"),.int n,.str (B6w (some a))]∧t'.get n=some wn∧t'.get f=some wm∧(if a=0 then wn.left<wm.left∧wm.top=wn.top else wn.top<wm.top∧wm.left=wn.left)
 leaves:sh'.leaves.Perm (f::sh.leaves)
 new:f∉sh.leaves
 olds: ∀k∈sh.leaves,A1j t' k=A1j t k
 buf:t'.buf f=b
theorem DispR.fin{sh sh':Sh}{b rr cc f:Int}{t' t'':Tree}(g:Good sh t)(h:DispR sh t b rr cc f sh' t')(hN:C3s t' t'')(hz: ¬A8f sh t b rr cc):
  (sh'=sh∧EndSame sh t b f t'' (A2z t sh.leaves b rr cc))∨EndSplit sh t b f sh' t'' (A2z t sh.leaves b rr cc):=by
 cases h with
 | @known k rest e=>
  left
  have hk:f∈A3u t sh.leaves b:=by rw [e];exact .head _
  refine A0f (List.mem_filter.mp hk) fun hk1 _=>A0f (List.mem_filter.mp hk1) fun hk2 hk3=>A0e (g.leaf hk2) fun w gw _=>⟨rfl,⟨Str.ofString "shown",by decide,by decide,by unfold A2z;rw [e]⟩,hk2,fun j hj _=>?_,?_⟩
  ·refine A0e (g.leaf hj) fun wj gj _=>?_
   exact hN.shown gj
  ·refine (hN.buf gw).trans ?_
   simp [Tree.buf,gw]at hk3;exact hk3
 | @split n a m _ t1 w' e e2 hn hr hg=>
  right
  have hmn:f∉sh.leaves:=fun q=>hr.nm (A5f q)
  have hme:(t1.put f ((w'.s_ear (.lst [])).show4 b 1 1 0)).get f=some ((w'.s_ear (.lst [])).show4 b 1 1 0):=Tree.get_put_self hg _
  have hold: ∀j∈sh.leaves,∀w,t.get j=some w→ ∃w1,(t1.put f ((w'.s_ear (.lst [])).show4 b 1 1 0)).get j=some w1∧SameS w w1∧t1.get j=some w1:=fun j hj w hw=>by
   refine A0e (hr.olds j hj w hw) fun w1 e1 s1=>?_
   exact A8n w1 ((Tree.get_put_ne (fun q:j=f=>hmn (q▸hj)) _).trans e1) s1 e1
  refine A0e (g.leaf hn) fun wn gn _=>A2u (hold n hn wn gn) fun wn1 hn1 _ hn2=>C8p (hN _ _ hn1) fun wn2 q1 _ _ q2 q3=>C8p (hN _ _ hme) fun wm2 p1 _ p4 p2 p3=>?_
  have hplc:=hr.plc wn1 w' hn2 hg
  refine⟨⟨n,a,wn2,wm2,C6o e2,by unfold A2z;rw [e];dsimp only;rw [e2],q1,p1,?_⟩,hr.leaves,hmn,fun j hj=>?_,?_⟩
  ·have l1:wm2.left=w'.left:=p2
   have l2:wm2.top=w'.top:=p3
   simp only [q2,q3,l1,l2];exact hplc
  ·refine A0e (g.leaf hj) fun wj gj _=>A2u (hold j hj wj gj) fun w1 e1 s1 _=>(hN.shown e1).trans ?_
   simp [A1j,e1,gj,Win.shownAV,s1.buf,s1.start,s1.point,s1.hscroll]
  ·refine (hN.buf hme).trans ?_;rfl
 | @take w e e2 e3 hg hm hd=>
  left
  have hc:A2z t sh.leaves b rr cc= .tup [.str (Str.ofString "taken"),.int (A7j t sh.leaves)]:=by
   unfold A2z;rw [e];dsimp only;rw [e2];dsimp only;exact(if_neg e3)
  refine⟨rfl,⟨Str.ofString "taken",by decide,by decide,hc⟩,hm,fun j hj hjf=>?_,?_⟩
  ·refine A0e (g.leaf hj) fun wj gj _=>?_
   by_cases hb:w.buf=b
   ·rw [if_pos hb]at hN;exact hN.shown gj
   ·rw [if_neg hb]at hN
    have e4:(t.put (A7j t sh.leaves) (C4l w b)).get j=some wj:=(Tree.get_put_ne hjf _).trans gj
    rw [hN.shown e4];simp [A1j,e4,gj]
  ·by_cases hb:w.buf=b
   ·rw [if_pos hb]at hN;refine(hN.buf hg).trans ?_;exact hb
   ·rw [if_neg hb]at hN
    refine(hN.buf (Tree.get_put_self hg _)).trans ?_;rfl
 |none e e2 e3=>exact absurd ⟨e,e2,e3⟩ hz
theorem DispR.zeroT{sh sh':Sh}{b rr cc f:Int}{t':Tree}(g:Good sh t)(h:DispR sh t b rr cc f sh' t')(hz:A8f sh t b rr cc):f=0∧sh'=sh∧t'=t:=by
 refine A1a hz fun z1 z2 z3=>?_
 try clear hz
 cases h with
 | @known k rest e=>rw [z1]at e;exact k5 e
 | @split n a m _ t1 w' e e2 hn hr hg=>rw [z2]at e2;exact k1 e2
 | @take w e e2 e3 hg hm hd=>exact absurd z3 e3
 |none e e2 e3=>exact⟨rfl,rfl,rfl⟩
theorem EndSplit.len{sh sh':Sh}{b f:Int}{t':Tree}{due:AV}(h:EndSplit sh t b f sh' t' due):sh'.leaves.length=sh.leaves.length+1:=by refine(h.leaves.length_eq).trans ?_;rfl
theorem B8r{t:Tree}: ∀{l:List Int} {k:Int},k∈l→(l.zip (l.map (A1j t))).lookup k=some (A1j t k)
 |a::l,k,h=>by
  simp only [List.map_cons,List.zip_cons_cons]
  by_cases e:k=a
  ·subst e;exact(List.lookup_cons_self)
  ·rw [List.lookup_cons,beq_eq_false_iff_ne.mpr e]
   exact B8r ((List.mem_cons.mp h).resolve_left e)
section
variable {fa:Addr} {cd:Value}
theorem D5z(G:PG S)(B:BK S){ns xs:List Int}{L:Nat}{c:Int}{sh:Sh}{lv fv nv av sv:Option AV}{Q:AF→St→Prop}(g:Good sh t)(hl:sh.all.length≤9)(hu: ∀a∈sh.leaves,∀b∈sh.leaves,t.use a=t.use b→a=b)(hx:xs.length≤63)(h0:0≤c)(hc:c≤34)
  (h: ∀tb b rr cc,W S (d+12) true ((FL fa cd).env L) (RF S) (execs (A1h.body.drop 10) ((FL fa cd).env L)) (St.mk (some t) (some (xs,c+1+1+1)) none none (tb) L ["script","deck","lap","found","number","axis","shown_window","buffer","row_rule","columns","due","selected","ahead","answer","old","new"] [some (.lst (ns.map .int)),some (.ref .deck),lv,fv,nv,av,sv,some (.int b),some (.int rr),some (.int cc),some (A2z t sh.leaves b rr cc),some (.int t.sel),some (.dic sh.leaves (sh.leaves.map (A1j t))),none,none,none] [] L ["tree"] [some (.ref .tree)] ["WindowTree","_law_draw","range","leaves","len","HEIGHT","WIDTH","split","LispSignal","_law_chosen","pop_to_buffer","Rules","display_buffer","tree_error"]) Q X):
  W S (d+12) true ((FL fa cd).env L) (RF S) (execs (A1h.body.drop 7) ((FL fa cd).env L)) (St.mk (some t) (some (xs,c)) none none (true) L ["script","deck","lap","found","number","axis","shown_window","buffer","row_rule","columns","due","selected","ahead","answer","old","new"] [some (.lst (ns.map .int)),some (.ref .deck),lv,fv,nv,av,sv,none,none,none,none,none,none,none,none,none] [] L ["tree"] [some (.ref .tree)] ["WindowTree","_law_draw","range","leaves","len","HEIGHT","WIDTH","split","LispSignal","_law_chosen","pop_to_buffer","Rules","display_buffer","tree_error"]) Q X:=by
 have hls:=Sh.leaves_le sh
 have h5:=Tree.s5 g.stg
 have h7:=g.stg
 refine A0h ?_
 intro K9
 refine B8v (x1:= "buffer") (x2:= "row_rule") (x3:= "columns") rfl (by kernel_rfl) (A0z (A0b rfl (A0t (A0w (A1n G (mi 1 rfl) rfl rfl (A4y (ix 1 rfl rfl) (A7h (A1o G h0 (by exact Int.le_trans hc (by decide)) (by decide) hx fun v1 v10 v11=>B0a (A0b rfl (A1n G (mi 1 rfl) rfl rfl (A4y (ix 1 rfl rfl) (A7h (A1o G (Int.le_add_one h0) (by exact Int.lt_of_le_of_lt hc (by decide)) (by decide) hx fun v2 v20 v21=>A0b rfl ?_)))))))))))))
 refine A1n G (mi 1 rfl) rfl rfl (A4y (ix 1 rfl rfl) (A7h (A1o G (by exact Z41 h0) (by lia) (by decide) hx fun v3 v30 v31=>?_)))
 generalize hb:1+v1=b at *
 refine A0g (⟨Nat.le_of_ble_eq_true rfl,?_⟩)
 refine ts3 (A0k (.tail (.tail (.tail (.tail (.tail (.tail (.tail (.tail (.tail .head))))))))) (A0k (.tail (.tail (.tail (.tail (.tail (.tail (.tail (.tail .head)))))))) (A0k (.tail (.tail (.tail (.tail (.tail (.tail (.tail .head))))))) (A6l ?_))))
 intro K9
 refine A5k (x1:= "due") (x2:= "selected") rfl (by kernel_rfl) (A0z (A0b rfl (B9i G (mi 9 rfl) rfl rfl (C2i .head (A4y (ix 7 rfl rfl) (A3j (ix 8 rfl rfl) (ix 9 rfl rfl) (C0e G B g (by exact Nat.lt_of_le_of_lt hl (by decide)) hu fun tb'=>?_)))))))
 have h1:=h tb' b v2 v3
 generalize A2z t sh.leaves b v2 v3=due at *
 refine A0b rfl (B6t .head (A1c rfl (by assumption) (A0g (⟨Nat.le_of_ble_eq_true rfl,?_⟩))))
 refine ts2 (A0k (.tail (.tail (.tail (.tail (.tail (.tail (.tail (.tail (.tail (.tail (.tail .head))))))))))) (A0k (.tail (.tail (.tail (.tail (.tail (.tail (.tail (.tail (.tail (.tail .head)))))))))) (A6l ?_)))
 intro K9
 refine B5e (cl:= [("tree",L+1)]) (g:= []) (by with_unfolding_all rfl) (by with_unfolding_all rfl) rfl (by decide) (fun _=>rfl) (A2x G (mi 3 rfl) rfl rfl (A8k .head (A3a G g.stg g.root g.rep (by exact Nat.le_trans hl (by decide)) (B9w (cnm':= ["tree"]) (cel':= [some (.ref .tree)]) 1 (A1j t) (by exact Nat.le_trans hls (Nat.le_trans hl (by decide))) (sh.leaves_sub.nodup g.nd) rfl rfl ⟨by with_unfolding_all rfl,by decide,rfl,by decide,rfl,fun C=>⟨rfl,rfl,rfl,B2k ⟨by kernel_rfl,by rfl⟩,B2k ⟨by kernel_rfl,by rfl⟩,C3r,by decide⟩,B2k (by kernel_rfl)⟩ ?_ ?_ ?_))))
 ·intro C n hn
  refine B2t (A0d .head ?_)
  exact⟨rfl,rfl⟩
 ·intro C n hn
  refine A0e (g.leaf hn) fun w g1 _=>B2t (A6z rfl (A9m .head .head (by assumption) (by assumption) rfl (A3r G (by assumption) (B4v G g1 ?_))))
  exact⟨rfl,by simp [A1j,g1]⟩
 refine A0k (.tail (.tail (.tail (.tail (.tail (.tail (.tail (.tail (.tail (.tail (.tail (.tail .head)))))))))))) (A0a ?_)
 exact h1
end
section
variable {fa:Addr} {cd:Value}
theorem D4k(G:PG S)(E:EK S){ns xs:List Int}{L:Nat}{c b rr cc:Int}{ah:AV}{sh:Sh}{lv fv nv av sv:Option AV}{Q:AF→St→Prop}(g:Good sh t)(pl:A2v t)(hl:sh.all.length≤9)(hx:xs.length≤63)(h0:0≤c)(hc:c≤40)(hz:A8f sh t b rr cc)
  (h:W S (d+12) true ((FL fa cd).env L) (RF S) (execs (A1h.body.drop 11) ((FL fa cd).env L)) (St.mk (some t) (some (xs,c+1)) none none (tb) L ["script","deck","lap","found","number","axis","shown_window","buffer","row_rule","columns","due","selected","ahead","answer","old","new"] [some (.lst (ns.map .int)),some (.ref .deck),lv,fv,nv,av,sv,some (.int b),some (.int rr),some (.int cc),some (.tup [.str (Str.ofString "none")]),some (.int t.sel),some ah,some (.int 0),none,none] [] L ["tree"] [some (.ref .tree)] ["WindowTree","_law_draw","range","leaves","len","HEIGHT","WIDTH","split","LispSignal","_law_chosen","pop_to_buffer","Rules","display_buffer","tree_error"]) Q X):
  W S (d+12) true ((FL fa cd).env L) (RF S) (execs (A1h.body.drop 10) ((FL fa cd).env L)) (St.mk (some t) (some (xs,c)) none none (tb) L ["script","deck","lap","found","number","axis","shown_window","buffer","row_rule","columns","due","selected","ahead","answer","old","new"] [some (.lst (ns.map .int)),some (.ref .deck),lv,fv,nv,av,sv,some (.int b),some (.int rr),some (.int cc),some (.tup [.str (Str.ofString "none")]),some (.int t.sel),some ah,none,none,none] [] L ["tree"] [some (.ref .tree)] ["WindowTree","_law_draw","range","leaves","len","HEIGHT","WIDTH","split","LispSignal","_law_chosen","pop_to_buffer","Rules","display_buffer","tree_error"]) Q X:=by
 have key: ∀BB:List Stmt,W S (d+12) true ((FL fa cd).env L) (RF S) (execs BB ((FL fa cd).env L)) (St.mk (some t) (some (xs,c+1)) none none (tb) L ["script","deck","lap","found","number","axis","shown_window","buffer","row_rule","columns","due","selected","ahead","answer","old","new"] [some (.lst (ns.map .int)),some (.ref .deck),lv,fv,nv,av,sv,some (.int b),some (.int rr),some (.int cc),some (.tup [.str (Str.ofString "none")]),some (.int t.sel),some ah,some (.int 0),none,none] [] L ["tree"] [some (.ref .tree)] ["WindowTree","_law_draw","range","leaves","len","HEIGHT","WIDTH","split","LispSignal","_law_chosen","pop_to_buffer","Rules","display_buffer","tree_error"]) Q X→W S (d+12) true ((FL fa cd).env L) (RF S) (execs (A0j ((A1h.body.drop 10).headD (.Pass default))) ((FL fa cd).env L)) (St.mk (some t) (some (xs,c+1)) none none (tb) L ["script","deck","lap","found","number","axis","shown_window","buffer","row_rule","columns","due","selected","ahead","answer","old","new"] [some (.lst (ns.map .int)),some (.ref .deck),lv,fv,nv,av,sv,some (.int b),some (.int rr),some (.int cc),some (.tup [.str (Str.ofString "none")]),some (.int t.sel),some ah,none,none,none] [] L ["tree"] [some (.ref .tree)] ["WindowTree","_law_draw","range","leaves","len","HEIGHT","WIDTH","split","LispSignal","_law_chosen","pop_to_buffer","Rules","display_buffer","tree_error"]) (fun f σ=>B8q f σ (fun σ'=>W S (d+12) true ((FL fa cd).env L) (RF S) (execs BB ((FL fa cd).env L)) σ' Q X) Q) X:=by
  intro BB h
  refine A6g rfl ?_
  intro K9
  refine A5v G (mi 12 rfl) rfl rfl (C2i .head (A4y (ix 7 rfl rfl) (A0b rfl (B7a G (mi 11 rfl) rfl rfl (A3j (ix 8 rfl rfl) (ix 9 rfl rfl) (B8i G E (A0g (B4z G E g (by exact Nat.le_trans hl (by decide)) pl fun f sh' t' hr=>A1a (hr.zeroT g hz) fun y9a y9b y9c=>?_))))))))
  obtain rfl:=y9a
  obtain rfl:=y9b
  obtain rfl:=y9c
  have h7:=g.stg
  have h5:=Tree.s5 g.stg
  refine A0k (.tail (.tail (.tail (.tail (.tail (.tail (.tail (.tail (.tail (.tail (.tail (.tail (.tail .head))))))))))))) (A4i ?_)
  intro K9
  refine A3k rfl (B6t .head (A1c rfl (by assumption) (A0d (ix 11 rfl rfl) (neb (⟨fun hb=>by simp at hb,fun _=>?_⟩)))))
  refine A0x (A5u (A0a ?_))
  exact h
 refine A4e (rest:=A1h.body.drop 11) ?_
 generalize A1h.body.drop 11=BB at h ⊢
 refine C8z (A7l (A3k rfl (A1n G (mi 1 rfl) rfl rfl (A4y (ix 1 rfl rfl) (A7h (A1o G h0 (by exact Int.le_trans hc (by decide)) (by decide) hx fun v v0 v1=>A0w (eqb (⟨fun hb=>?_,fun hb=>?_⟩))))))))
 ·refine A7l (A6e rfl (ix 10 rfl rfl) (A0z (A0b rfl (A5h (A0g (⟨Nat.le_of_ble_eq_true rfl,?_⟩))))))
  refine A7y (by decide) (isb (⟨(fun h=>nomatch h),fun _=>?_⟩))
  skip
  refine⟨(fun h=>nomatch h),fun _=>?_⟩
  exact key _ h
 ·refine ⟨(fun h=>nomatch h),fun _=>?_⟩
  exact key _ h
theorem D4j(G:PG S)(E:EK S){ns xs:List Int}{L:Nat}{c b rr cc:Int}{ah:AV}{x:Str}{l:List AV}{sh:Sh}{lv fv nv av sv:Option AV}{Q:AF→St→Prop}(g:Good sh t)(pl:A2v t)(hl:sh.all.length≤9)(hx:xs.length≤63)(h0:0≤c)(hc:c≤40)(hz: ¬A8f sh t b rr cc)(hxn:x≠Str.ofString "none")
  (h: ∀f sh' t' t'',DispR sh t b rr cc f sh' t'→C3s t' t''→Good sh' t''→W S (d+12) true ((FL fa cd).env L) (RF S) (execs (A1h.body.drop 11) ((FL fa cd).env L)) (St.mk (some t'') (some (xs,c+1)) none none (tb) L ["script","deck","lap","found","number","axis","shown_window","buffer","row_rule","columns","due","selected","ahead","answer","old","new"] [some (.lst (ns.map .int)),some (.ref .deck),lv,fv,nv,av,sv,some (.int b),some (.int rr),some (.int cc),some (.tup (.str x::l)),some (.int t.sel),some ah,some (.int f),none,none] [] L ["tree"] [some (.ref .tree)] ["WindowTree","_law_draw","range","leaves","len","HEIGHT","WIDTH","split","LispSignal","_law_chosen","pop_to_buffer","Rules","display_buffer","tree_error"]) Q X):
  W S (d+12) true ((FL fa cd).env L) (RF S) (execs (A1h.body.drop 10) ((FL fa cd).env L)) (St.mk (some t) (some (xs,c)) none none (tb) L ["script","deck","lap","found","number","axis","shown_window","buffer","row_rule","columns","due","selected","ahead","answer","old","new"] [some (.lst (ns.map .int)),some (.ref .deck),lv,fv,nv,av,sv,some (.int b),some (.int rr),some (.int cc),some (.tup (.str x::l)),some (.int t.sel),some ah,none,none,none] [] L ["tree"] [some (.ref .tree)] ["WindowTree","_law_draw","range","leaves","len","HEIGHT","WIDTH","split","LispSignal","_law_chosen","pop_to_buffer","Rules","display_buffer","tree_error"]) Q X:=by
 refine A4e (rest:=A1h.body.drop 11) ?_
 generalize A1h.body.drop 11=BB at h ⊢
 refine C8z (A7l (A3k rfl (A1n G (mi 1 rfl) rfl rfl (A4y (ix 1 rfl rfl) (A7h (A1o G h0 (by exact Int.le_trans hc (by decide)) (by decide) hx fun v v0 v1=>A0w (eqb (⟨fun hb=>?_,fun hb=>?_⟩))))))))
 ·refine A7l (A6e rfl (ix 10 rfl rfl) (A0z (A0b rfl (A5h (A0g (⟨Nat.le_of_ble_eq_true rfl,?_⟩))))))
  refine B7c hxn rfl (isb (⟨fun _=>?_,(fun h=>nomatch h)⟩))
  refine A6m (⟨fun _=>?_,(fun h=>nomatch h)⟩)
  refine A6g rfl ?_
  intro K9
  refine B3v G (mi 10 rfl) rfl rfl (C2i .head (A4y (ix 7 rfl rfl) (A0b rfl (B7a G (mi 11 rfl) rfl rfl (A3j (ix 8 rfl rfl) (ix 9 rfl rfl) (B8i G E (A0g (D4y G E g (by exact Nat.le_trans hl (by decide)) pl hz fun f sh' t' w hr hm hw=>A1a (hr.good g) fun g' _ hs=>?_))))))))
  have g2:=g'.selT hw hm
  have h7:(t'.selT f w).stg=7:=g2.stg
  have nr:=C3s.selT hw
  have h1:=h f sh' t' _ hr nr g2
  have hse:(t'.selT f w).sel=f:=rfl
  generalize t'.selT f w=t2 at *
  refine A0k (.tail (.tail (.tail (.tail (.tail (.tail (.tail (.tail (.tail (.tail (.tail (.tail (.tail .head))))))))))))) (A4i ?_)
  intro K9
  refine A3k rfl (B6t .head (A1c rfl (by assumption) (A0d (ix 13 rfl rfl) (neb ?_))))
  rw [hse]
  refine⟨fun hb=>by simp at hb,fun _=>?_⟩
  refine A0x (A5u (A0a ?_))
  exact h1
 ·refine ⟨(fun h=>nomatch h),fun _=>?_⟩
  refine A6g rfl ?_
  intro K9
  refine A5v G (mi 12 rfl) rfl rfl (C2i .head (A4y (ix 7 rfl rfl) (A0b rfl (B7a G (mi 11 rfl) rfl rfl (A3j (ix 8 rfl rfl) (ix 9 rfl rfl) (B8i G E (A0g (B4z G E g (by exact Nat.le_trans hl (by decide)) pl fun f sh' t' hr=>A1a (hr.good g) fun g' _ hs=>?_))))))))
  have h7:=g'.stg
  have h1:=h f sh' t' _ hr (C3s.refl _) g'
  refine A0k (.tail (.tail (.tail (.tail (.tail (.tail (.tail (.tail (.tail (.tail (.tail (.tail (.tail .head))))))))))))) (A4i ?_)
  intro K9
  refine A3k rfl (B6t .head (A1c rfl (by assumption) (A0d (ix 11 rfl rfl) (neb ?_))))
  rw [hs]
  refine⟨fun hb=>by simp at hb,fun _=>?_⟩
  refine A0x (A5u (A0a ?_))
  exact h1
end
section
variable {fa:Addr} {cd:Value}
theorem D4i(G:PG S){ns xs:List Int}{L:Nat}{c b rr cc:Int}{sh:Sh}{lv fv nv av sv:Option AV}{Q:AF→St→Prop}(g:Good sh t)(hl:sh.all.length≤9)(h: ∀σ,Q (.ret (.bool true)) σ):
  W S (d+12) true ((FL fa cd).env L) (RF S) (execs (A1h.body.drop 11) ((FL fa cd).env L)) (St.mk (some t) (some (xs,c)) none none (tb) L ["script","deck","lap","found","number","axis","shown_window","buffer","row_rule","columns","due","selected","ahead","answer","old","new"] [some (.lst (ns.map .int)),some (.ref .deck),lv,fv,nv,av,sv,some (.int b),some (.int rr),some (.int cc),some (.tup [.str (Str.ofString "none")]),some (.int t.sel),some (.dic sh.leaves (sh.leaves.map (A1j t))),some (.int 0),none,none] [] L ["tree"] [some (.ref .tree)] ["WindowTree","_law_draw","range","leaves","len","HEIGHT","WIDTH","split","LispSignal","_law_chosen","pop_to_buffer","Rules","display_buffer","tree_error"]) Q X:=by
 have hls:=Sh.leaves_le sh
 refine A4i ?_
 intro K9
 refine A3k rfl (B2e G (mi 13 rfl) rfl rfl (A8k .head (B2i G g (by exact Nat.lt_of_le_of_lt hl (by decide)) (A5w (A8t (fun h=>by contradiction) (isb (⟨fun hb=>by exact k4 hb,fun _=>?_⟩)))))))
 refine A0x (A0a (A4i ?_))
 intro K9
 refine A3k rfl (A5i (ix 10 rfl rfl) (B7i (by decide) (by decide) rfl (fun _ _=>rfl) (A5h (A9j (isb (⟨fun _=>?_,fun hb=>by contradiction⟩))))))
 refine A0h ?_
 intro K9
 refine A0u (D4a (B8t rfl (A0d (ix 13 rfl rfl) (A0w (D3q (A8n _ rfl (fun _=>?_) (fun hb=>by contradiction)))))))
 refine C9r (B8t rfl (C2k (cl:= [("tree",L+1)]) (g:= []) (by with_unfolding_all rfl) rfl (by decide) (fun _=>rfl) (A2x G (mi 3 rfl) rfl rfl (A8k .head (A3a G g.stg g.root g.rep (by exact Nat.le_trans hl (by decide)) (B9w (cnm':= ["tree"]) (cel':= [some (.ref .tree)]) 1 (A1j t) (by exact Nat.le_trans hls (Nat.le_trans hl (by decide))) (sh.leaves_sub.nodup g.nd) rfl rfl ⟨by with_unfolding_all rfl,by decide,rfl,by decide,rfl,fun C=>⟨rfl,rfl,rfl,B2k ⟨by kernel_rfl,by assumption⟩,B2k ⟨by kernel_rfl,by assumption⟩,C3r,by decide⟩,B2k (by kernel_rfl)⟩ ?_ ?_ ?_))))))
 ·intro C n hn
  refine B2t (A0d .head ?_)
  exact⟨rfl,rfl⟩
 ·intro C n hn
  have h5:=Tree.s5 g.stg
  refine A0e (g.leaf hn) fun w g1 _=>B2t (A6z rfl (A9m .head .head (by assumption) (by assumption) rfl (A3r G (by assumption) (B4v G g1 ?_))))
  exact⟨rfl,by simp [A1j,g1]⟩
 refine A0d (ix 12 rfl rfl) (B7g (sh.leaves_sub.nodup g.nd) (by simp) (fun a ha=>?_) ?_)
 ·refine A0e (List.mem_map.mp ha) fun n hn y9a=>?_
  obtain rfl:=y9a
  refine A0e (g.leaf hn) fun w g1 _=>A1f _ (by simp only [A1j,g1,Option.map_some,Option.getD_some];rfl) (List.all_eq_true.mp rfl)
 exact h _
theorem D2j(G:PG S){ns xs:List Int}{L:Nat}{c b rr cc f:Int}{sh sh':Sh}{due:AV}{t':Tree}{lv fv nv av sv ov nw':Option AV}{Q:AF→St→Prop}(g:Good sh t)(g':Good sh' t')(hf:f∈sh'.leaves)(hin: ∀k∈sh.leaves,k∈sh'.leaves)(hol: ∀k∈sh.leaves,k≠f→A1j t' k=A1j t k)(hb:t'.buf f=b)(h: ∀σ,Q (.ret (.bool true)) σ):
  W S (d+12) true ((FL fa cd).env L) (RF S) (execs (A1h.body.drop 14) ((FL fa cd).env L)) (St.mk (some t') (some (xs,c)) none none (tb) L ["script","deck","lap","found","number","axis","shown_window","buffer","row_rule","columns","due","selected","ahead","answer","old","new"] [some (.lst (ns.map .int)),some (.ref .deck),lv,fv,nv,av,sv,some (.int b),some (.int rr),some (.int cc),some due,some (.int t.sel),some (.dic sh.leaves (sh.leaves.map (A1j t))),some (.int f),ov,nw'] [] L ["tree"] [some (.ref .tree)] ["WindowTree","_law_draw","range","leaves","len","HEIGHT","WIDTH","split","LispSignal","_law_chosen","pop_to_buffer","Rules","display_buffer","tree_error"]) Q X:=by
 have h5:=Tree.s5 g'.stg
 refine A0h ?_
 intro K9
 refine B1l (fun _=>rfl) (A0d (ix 12 rfl rfl) (D6f ?_))
 let I9:List Int→St→Prop:=fun rest σ'=> ∃nv,(∀k∈rest,k∈sh.leaves)∧σ'=(St.mk (some t') (some (xs,c)) none none (tb) L ["script","deck","lap","found","number","axis","shown_window","buffer","row_rule","columns","due","selected","ahead","answer","old","new"] [some (.lst (ns.map .int)),some (.ref .deck),lv,fv,nv,av,sv,some (.int b),some (.int rr),some (.int cc),some due,some (.int t.sel),some (.dic sh.leaves (sh.leaves.map (A1j t))),some (.int f),ov,nw'] [] L ["tree"] [some (.ref .tree)] ["WindowTree","_law_draw","range","leaves","len","HEIGHT","WIDTH","split","LispSignal","_law_chosen","pop_to_buffer","Rules","display_buffer","tree_error"])
 refine A9l I9 rfl
  ⟨nv,fun _ h=>h,rfl⟩ ?_ ?_
 ·intro k rest σ' K9 h9
  refine A0e h9 fun nv hin2 y9a=>?_
  try clear h9
  obtain rfl:=y9a
  have hk:=hin2 k (.head _)
  refine A0e (g'.leaf (hin k hk)) fun w' g2 _=>A0e (g.leaf hk) fun w g1 _=>A0k (.tail (.tail (.tail (.tail .head)))) (A4i ?_)
  intro K9
  refine A7l (A6e rfl (ix 4 rfl rfl) (A0d (ix 13 rfl rfl) (neb (⟨fun hne=>?_,fun _=>?_⟩))))
  ·have hne:k≠f:=by simpa using hne
   refine A7l (A3k rfl (A6z rfl (A9m .head (ix 4 rfl rfl) (by assumption) (by assumption) rfl (A3r G (by assumption) (B4v G g2 ?_)))))
   have e1:w'.shownAV=A1j t k:=by refine Eq.trans ?_ (hol k hk hne).symm.symm;simp [A1j,g2]
   rw [e1]
   refine A6i (A0d (ix 12 rfl rfl) (A0d (ix 4 rfl rfl) (D4f (B8r hk) (fun _ _=>rfl) ?_)))
   have e2:A1j t k= .tup [.int w.buf,.int w.start,.int w.point,.int w.hscroll]:=by simp [A1j,g1,Win.shownAV]
   rw [e2]
   skip
   refine A7y (List.all_eq_true.mp rfl) (isb (⟨(fun h=>nomatch h),fun _=>?_⟩))
   refine⟨(fun h=>nomatch h),fun _=>?_⟩
   refine A0x (A5u (A0a ?_))
   exact A1f _ (fun j hj=>hin2 j (.tail _ hj)) rfl
  ·refine ⟨(fun h=>nomatch h),fun _=>?_⟩
   refine A0x (A5u (A0a ?_))
   exact A1f _ (fun j hj=>hin2 j (.tail _ hj)) rfl
 ·intro σ' h9
  refine A0e h9 fun nv hin2 y9a=>?_
  try clear h9
  obtain rfl:=y9a
  refine A0e (g'.leaf hf) fun w' g2 _=>?_
  have e:(w'.buf == b)=true:=by simp [Tree.buf,g2]at hb;simp [hb]
  refine A0a (B1p (B8t rfl (A3q rfl (A9m .head (ix 13 rfl rfl) (by assumption) (by assumption) rfl (A6r rfl (by assumption) (A0d (ix 7 rfl rfl) (D3q ?_)))))))
  simp only [e]
  exact h _
theorem D2n(G:PG S){ns xs:List Int}{L:Nat}{c b rr cc f se:Int}{sh sh':Sh}{t':Tree}{lv fv nv av sv:Option AV}{Q:AF→St→Prop}{due:AV}(g':Good sh' t')(hl:sh'.all.length≤11)
  (h:W S (d+12) true ((FL fa cd).env L) (RF S) (execs (A1h.body.drop 12) ((FL fa cd).env L)) (St.mk (some t') (some (xs,c)) none none (tb) L ["script","deck","lap","found","number","axis","shown_window","buffer","row_rule","columns","due","selected","ahead","answer","old","new"] [some (.lst (ns.map .int)),some (.ref .deck),lv,fv,nv,av,sv,some (.int b),some (.int rr),some (.int cc),some due,some (.int se),some (.dic sh.leaves (sh.leaves.map (A1j t))),some (.int f),none,none] [] L ["tree"] [some (.ref .tree)] ["WindowTree","_law_draw","range","leaves","len","HEIGHT","WIDTH","split","LispSignal","_law_chosen","pop_to_buffer","Rules","display_buffer","tree_error"]) Q X):
  W S (d+12) true ((FL fa cd).env L) (RF S) (execs (A1h.body.drop 11) ((FL fa cd).env L)) (St.mk (some t') (some (xs,c)) none none (tb) L ["script","deck","lap","found","number","axis","shown_window","buffer","row_rule","columns","due","selected","ahead","answer","old","new"] [some (.lst (ns.map .int)),some (.ref .deck),lv,fv,nv,av,sv,some (.int b),some (.int rr),some (.int cc),some due,some (.int se),some (.dic sh.leaves (sh.leaves.map (A1j t))),some (.int f),none,none] [] L ["tree"] [some (.ref .tree)] ["WindowTree","_law_draw","range","leaves","len","HEIGHT","WIDTH","split","LispSignal","_law_chosen","pop_to_buffer","Rules","display_buffer","tree_error"]) Q X:=by
 refine A4e (rest:=A1h.body.drop 12) ?_
 generalize A1h.body.drop 12=BB at h ⊢
 refine C8z (A3k rfl (B2e G (mi 13 rfl) rfl rfl (A8k .head (B2i G g' (by exact Nat.lt_of_le_of_lt hl (by decide)) (A5w (A8t (fun h=>by contradiction) (isb (⟨fun hb=>by exact k4 hb,fun _=>?_⟩))))))))
 refine A0x (A0a ?_)
 exact h
theorem D2m(G:PG S){ns xs:List Int}{L:Nat}{c b rr cc f se:Int}{sh sh':Sh}{t':Tree}{lv fv nv av sv:Option AV}{Q:AF→St→Prop}{x:Str}{l:List AV}(hx:x≠Str.ofString "none")
  (h:W S (d+12) true ((FL fa cd).env L) (RF S) (execs (A1h.body.drop 13) ((FL fa cd).env L)) (St.mk (some t') (some (xs,c)) none none (tb) L ["script","deck","lap","found","number","axis","shown_window","buffer","row_rule","columns","due","selected","ahead","answer","old","new"] [some (.lst (ns.map .int)),some (.ref .deck),lv,fv,nv,av,sv,some (.int b),some (.int rr),some (.int cc),some (.tup (.str x::l)),some (.int se),some (.dic sh.leaves (sh.leaves.map (A1j t))),some (.int f),none,none] [] L ["tree"] [some (.ref .tree)] ["WindowTree","_law_draw","range","leaves","len","HEIGHT","WIDTH","split","LispSignal","_law_chosen","pop_to_buffer","Rules","display_buffer","tree_error"]) Q X):
  W S (d+12) true ((FL fa cd).env L) (RF S) (execs (A1h.body.drop 12) ((FL fa cd).env L)) (St.mk (some t') (some (xs,c)) none none (tb) L ["script","deck","lap","found","number","axis","shown_window","buffer","row_rule","columns","due","selected","ahead","answer","old","new"] [some (.lst (ns.map .int)),some (.ref .deck),lv,fv,nv,av,sv,some (.int b),some (.int rr),some (.int cc),some (.tup (.str x::l)),some (.int se),some (.dic sh.leaves (sh.leaves.map (A1j t))),some (.int f),none,none] [] L ["tree"] [some (.ref .tree)] ["WindowTree","_law_draw","range","leaves","len","HEIGHT","WIDTH","split","LispSignal","_law_chosen","pop_to_buffer","Rules","display_buffer","tree_error"]) Q X:=by
 refine A4e (rest:=A1h.body.drop 13) ?_
 generalize A1h.body.drop 13=BB at h ⊢
 refine C8z (A3k rfl (A5i (ix 10 rfl rfl) (B7i (by decide) (by decide) rfl (fun _ _=>rfl) (A5h (A9j (isb (⟨fun hb=>absurd (by simpa using hb) hx,fun _=>?_⟩)))))))
 refine A0x (A0a ?_)
 exact h
theorem D2k(G:PG S){ns xs:List Int}{L:Nat}{c b rr cc f se:Int}{sh sh':Sh}{t':Tree}{lv fv nv av sv:Option AV}{Q:AF→St→Prop}{x:Str}(g':Good sh t')(hl:sh.all.length≤11)(hx:x≠Str.ofString "split")
  (h:W S (d+12) true ((FL fa cd).env L) (RF S) (execs (A1h.body.drop 14) ((FL fa cd).env L)) (St.mk (some t') (some (xs,c)) none none (tb) L ["script","deck","lap","found","number","axis","shown_window","buffer","row_rule","columns","due","selected","ahead","answer","old","new"] [some (.lst (ns.map .int)),some (.ref .deck),lv,fv,nv,av,sv,some (.int b),some (.int rr),some (.int cc),some (.tup [.str x,.int f]),some (.int se),some (.dic sh.leaves (sh.leaves.map (A1j t))),some (.int f),none,none] [] L ["tree"] [some (.ref .tree)] ["WindowTree","_law_draw","range","leaves","len","HEIGHT","WIDTH","split","LispSignal","_law_chosen","pop_to_buffer","Rules","display_buffer","tree_error"]) Q X):
  W S (d+12) true ((FL fa cd).env L) (RF S) (execs (A1h.body.drop 13) ((FL fa cd).env L)) (St.mk (some t') (some (xs,c)) none none (tb) L ["script","deck","lap","found","number","axis","shown_window","buffer","row_rule","columns","due","selected","ahead","answer","old","new"] [some (.lst (ns.map .int)),some (.ref .deck),lv,fv,nv,av,sv,some (.int b),some (.int rr),some (.int cc),some (.tup [.str x,.int f]),some (.int se),some (.dic sh.leaves (sh.leaves.map (A1j t))),some (.int f),none,none] [] L ["tree"] [some (.ref .tree)] ["WindowTree","_law_draw","range","leaves","len","HEIGHT","WIDTH","split","LispSignal","_law_chosen","pop_to_buffer","Rules","display_buffer","tree_error"]) Q X:=by
 have hls:=Sh.leaves_le sh
 refine A4e (rest:=A1h.body.drop 14) ?_
 generalize A1h.body.drop 14=BB at h ⊢
 refine C8z (A3k rfl (A5i (ix 10 rfl rfl) (B7i (by decide) (by decide) rfl (fun _ _=>rfl) (A5h (A9j (isb (⟨fun hb=>absurd (by simpa using hb) hx,fun _=>?_⟩)))))))
 refine A4i ?_
 intro K9
 refine B5c (A6e rfl (ix 13 rfl rfl) (A5i (ix 10 rfl rfl) (B7i (by decide) (by decide) rfl (fun _ _=>rfl) (neb (⟨fun hb=>by simp at hb,fun _=>?_⟩)))))
 refine B5c (A3k rfl (B2m G (mi 4 rfl) rfl rfl (A0b rfl (A2x G (mi 3 rfl) rfl rfl (A8k .head (A3a G g'.stg g'.root g'.rep (by exact Nat.le_trans hl (by decide)) (A0g (A9u (l:=sh.leaves.map .int) A1g (by rw [List.length_map];exact Nat.le_trans hls (Nat.le_trans hl (by decide))) (B2m G (mi 4 rfl) rfl rfl (A2s (ix 12 rfl rfl) (C0j (by exact Nat.le_trans hls (Nat.le_trans hl (by decide))) (neb (⟨fun hb=>by simp at hb,fun _=>?_⟩)))))))))))))
 refine A5y (⟨(fun h=>nomatch h),fun _=>?_⟩)
 refine A0x (A5u (A0a ?_))
 exact h
theorem D2l(G:PG S){ns xs:List Int}{L:Nat}{c b rr cc f se:Int}{sh sh':Sh}{t':Tree}{lv fv nv av sv:Option AV}{Q:AF→St→Prop}{n a:Int}{wn wm:Win}(g':Good sh' t')(hl:sh.all.length≤11)(hl':sh'.all.length≤11)(hlen:sh'.leaves.length=sh.leaves.length+1)(hf:f∉sh.leaves)(ha:a=0∨a=1)(gn:t'.get n=some wn)(gm:t'.get f=some wm)
  (hp:if a=0 then wn.left<wm.left∧wm.top=wn.top else wn.top<wm.top∧wm.left=wn.left)
  (h:W S (d+12) true ((FL fa cd).env L) (RF S) (execs (A1h.body.drop 14) ((FL fa cd).env L)) (St.mk (some t') (some (xs,c)) none none (tb) L ["script","deck","lap","found","number","axis","shown_window","buffer","row_rule","columns","due","selected","ahead","answer","old","new"] [some (.lst (ns.map .int)),some (.ref .deck),lv,fv,nv,av,sv,some (.int b),some (.int rr),some (.int cc),some (.tup [.str (Str.ofString "split"),.int n,.str (B6w (some a))]),some (.int se),some (.dic sh.leaves (sh.leaves.map (A1j t))),some (.int f),some (.ref (.win n)),some (.ref (.win f))] [] L ["tree"] [some (.ref .tree)] ["WindowTree","_law_draw","range","leaves","len","HEIGHT","WIDTH","split","LispSignal","_law_chosen","pop_to_buffer","Rules","display_buffer","tree_error"]) Q X):
  W S (d+12) true ((FL fa cd).env L) (RF S) (execs (A1h.body.drop 13) ((FL fa cd).env L)) (St.mk (some t') (some (xs,c)) none none (tb) L ["script","deck","lap","found","number","axis","shown_window","buffer","row_rule","columns","due","selected","ahead","answer","old","new"] [some (.lst (ns.map .int)),some (.ref .deck),lv,fv,nv,av,sv,some (.int b),some (.int rr),some (.int cc),some (.tup [.str (Str.ofString "split"),.int n,.str (B6w (some a))]),some (.int se),some (.dic sh.leaves (sh.leaves.map (A1j t))),some (.int f),none,none] [] L ["tree"] [some (.ref .tree)] ["WindowTree","_law_draw","range","leaves","len","HEIGHT","WIDTH","split","LispSignal","_law_chosen","pop_to_buffer","Rules","display_buffer","tree_error"]) Q X:=by
 have hls:=Sh.leaves_le sh
 have hls':=Sh.leaves_le sh'
 have h5:=Tree.s5 g'.stg
 have hin:(sh.leaves.any (· == f))=false:=by
  refine(List.any_eq_false).mpr ?_;intro k hk q
  exact hf ((beq_iff_eq.mp q)▸hk)
 refine A4e (rest:=A1h.body.drop 14) ?_
 generalize A1h.body.drop 14=BB at h ⊢
 refine C8z (A3k rfl (A5i (ix 10 rfl rfl) (B7i (by decide) (by decide) rfl (fun _ _=>rfl) (A5h (A9j (isb (⟨fun _=>?_,fun hb=>by contradiction⟩)))))))
 refine A0h ?_
 intro K9
 refine A5k (x1:= "old") (x2:= "new") rfl (by kernel_rfl) (A0z (A0b rfl (A6i (B6t .head (A0s rfl (by assumption) (A5i (ix 10 rfl rfl) (B7i (by decide) (by decide) rfl (fun _ _=>rfl) (A6q rfl (by assumption) (by assumption) (fun _ _=>rfl) (A0b rfl (A6z rfl (B6t .head (A0s rfl (by assumption) (C8g rfl h5 (A0d (ix 13 rfl rfl) (A5w ?_)))))))))))))))
 refine B7l f rfl rfl rfl ?_
 rw [gm]
 dsimp only [B9l]
 refine A0g (⟨Nat.le_of_ble_eq_true rfl,?_⟩)
 refine ts2 (A0k (.tail (.tail (.tail (.tail (.tail (.tail (.tail (.tail (.tail (.tail (.tail (.tail (.tail (.tail (.tail .head))))))))))))))) (A0k (.tail (.tail (.tail (.tail (.tail (.tail (.tail (.tail (.tail (.tail (.tail (.tail (.tail (.tail .head)))))))))))))) (A0a (A4i ?_))))
 intro K9
 refine B5c (A6e rfl (ix 13 rfl rfl) (A0d (ix 12 rfl rfl) (C7i ?_)))
 rw [hin]
 refine isb (⟨(fun h=>nomatch h),fun _=>?_⟩)
 refine B5c (A6e rfl (ix 15 rfl rfl) (A5w (A8u (fun h=>by contradiction) (isb (⟨fun hb=>by exact k4 hb,fun _=>?_⟩)))))
 refine B5c (A3k rfl (B2m G (mi 4 rfl) rfl rfl (A0b rfl (A2x G (mi 3 rfl) rfl rfl (A8k .head (A3a G g'.stg g'.root g'.rep (by exact Nat.le_trans hl' (by decide)) (A0g (A9u (l:=sh'.leaves.map .int) A1g (by rw [List.length_map];exact Nat.le_trans hls' (Nat.le_trans hl' (by decide))) (A0t (B2m G (mi 4 rfl) rfl rfl (A2s (ix 12 rfl rfl) (C0j (by lia) (A0w (B0a (neb ?_)))))))))))))))
 refine⟨fun hb=>by simp [hlen]at hb,fun _=>?_⟩
 refine A5y (⟨(fun h=>nomatch h),fun _=>?_⟩)
 refine A0x (A0a (A4i ?_))
 intro K9
 refine A3k rfl (A0z (A0b rfl (B8t rfl (A2c (ix 15 rfl rfl) (B6k rfl (by assumption) (A2c (ix 14 rfl rfl) (B6k rfl (by assumption) (D4e (A0b rfl (B8t rfl (A2c (ix 15 rfl rfl) (B1v rfl (by assumption) (A2c (ix 14 rfl rfl) (B1v rfl (by assumption) (D4e ?_)))))))))))))))
 refine A0g (⟨Nat.le_of_ble_eq_true rfl,?_⟩)
 refine A0z (A0b rfl (B8t rfl (A5i (ix 10 rfl rfl) (B7i (by decide) (by decide) rfl (fun _ _=>rfl) (A5h (A9j (A0b rfl (B8t rfl (A5i (ix 10 rfl rfl) (B7i (by decide) (by decide) rfl (fun _ _=>rfl) (A5h (A9j (A0g (⟨Nat.le_of_ble_eq_true rfl,?_⟩))))))))))))))
 have e1:decide (wm.top>wn.top)=decide (B6w (some a)=Str.ofString "below"):=by
  rcases ha with rfl|rfl
  ·have hp:wn.left<wm.left∧wm.top=wn.top:=by exact hp
   have a1:decide (wm.top>wn.top)=false:=decide_eq_false (by lia)
   rw [a1];assumption
  ·have hp:wn.top<wm.top∧wm.left=wn.left:=by exact hp
   have a1:decide (wm.top>wn.top)=true:=decide_eq_true (by lia)
   rw [a1];assumption
 have e2:decide (wm.left>wn.left)=decide (B6w (some a)=Str.ofString "right"):=by
  rcases ha with rfl|rfl
  ·have hp:wn.left<wm.left∧wm.top=wn.top:=by exact hp
   have a1:decide (wm.left>wn.left)=true:=decide_eq_true (by lia)
   rw [a1];assumption
  ·have hp:wn.top<wm.top∧wm.left=wn.left:=by exact hp
   have a1:decide (wm.left>wn.left)=false:=decide_eq_false (by lia)
   rw [a1];assumption
 simp only [e1,e2]
 refine A7y (List.all_eq_true.mp rfl) (isb (⟨(fun h=>nomatch h),fun _=>?_⟩))
 refine A0x (A5u (A0a ?_))
 exact h
theorem D4g(G:PG S){ns xs:List Int}{L:Nat}{c b rr cc f:Int}{sh:Sh}{due:AV}{t':Tree}{lv fv nv av sv:Option AV}{Q:AF→St→Prop}(g:Good sh t)(g':Good sh t')(hl:sh.all.length≤9)(en:EndSame sh t b f t' due)(h: ∀σ,Q (.ret (.bool true)) σ):
  W S (d+12) true ((FL fa cd).env L) (RF S) (execs (A1h.body.drop 11) ((FL fa cd).env L)) (St.mk (some t') (some (xs,c)) none none (tb) L ["script","deck","lap","found","number","axis","shown_window","buffer","row_rule","columns","due","selected","ahead","answer","old","new"] [some (.lst (ns.map .int)),some (.ref .deck),lv,fv,nv,av,sv,some (.int b),some (.int rr),some (.int cc),some due,some (.int t.sel),some (.dic sh.leaves (sh.leaves.map (A1j t))),some (.int f),none,none] [] L ["tree"] [some (.ref .tree)] ["WindowTree","_law_draw","range","leaves","len","HEIGHT","WIDTH","split","LispSignal","_law_chosen","pop_to_buffer","Rules","display_buffer","tree_error"]) Q X:=by
 refine A2u en.due fun x x1 x2 y9a=>?_
 obtain rfl:=y9a
 exact D2n G g' (by exact Nat.le_trans hl (by decide)) (D2m (sh':=sh) G x1 (D2k (sh':=sh) G g' (by exact Nat.le_trans hl (by decide)) x2 (D2j G g g' en.mem (fun _ h=>h) en.olds en.buf h)))
theorem D4h(G:PG S){ns xs:List Int}{L:Nat}{c b rr cc f:Int}{sh sh':Sh}{due:AV}{t':Tree}{lv fv nv av sv:Option AV}{Q:AF→St→Prop}(g:Good sh t)(g':Good sh' t')(hl:sh.all.length≤9)(hl':sh'.all.length≤11)(en:EndSplit sh t b f sh' t' due)(h: ∀σ,Q (.ret (.bool true)) σ):
  W S (d+12) true ((FL fa cd).env L) (RF S) (execs (A1h.body.drop 11) ((FL fa cd).env L)) (St.mk (some t') (some (xs,c)) none none (tb) L ["script","deck","lap","found","number","axis","shown_window","buffer","row_rule","columns","due","selected","ahead","answer","old","new"] [some (.lst (ns.map .int)),some (.ref .deck),lv,fv,nv,av,sv,some (.int b),some (.int rr),some (.int cc),some due,some (.int t.sel),some (.dic sh.leaves (sh.leaves.map (A1j t))),some (.int f),none,none] [] L ["tree"] [some (.ref .tree)] ["WindowTree","_law_draw","range","leaves","len","HEIGHT","WIDTH","split","LispSignal","_law_chosen","pop_to_buffer","Rules","display_buffer","tree_error"]) Q X:=by
 refine B5u en.ex fun n a wn wm ha y9a gn gm hp=>?_
 obtain rfl:=y9a
 exact D2n G g' (by exact hl') (D2m (sh':=sh') G (by decide) (D2l G g' (by exact Nat.le_trans hl (by decide)) (by exact hl') en.len en.new ha gn gm hp (D2j G g g' (en.leaves.mem_iff.mpr (.head _)) (fun k hk=>en.leaves.mem_iff.mpr (.tail _ hk)) (fun k hk _=>en.olds k hk) en.buf h)))
end
section
variable {fa:Addr} {cd:Value}
theorem C7s(G:PG S)(E:EK S)(B:BK S){ns:List Int}{L:Nat}{Q:AF→St→Prop}(hn:ns.length≤63)(h: ∀σ,Q (.ret (.bool true)) σ):
  W S (d+12) true ((FL fa cd).env L) (RF S) (execs A1h.body ((FL fa cd).env L)) (St.mk none none none none true L ["script","deck","lap","found","number","axis","shown_window","buffer","row_rule","columns","due","selected","ahead","answer","old","new"] [some (.lst (ns.map .int)),none,none,none,none,none,none,none,none,none,none,none,none,none,none,none] [] L ["tree"] [none] ["WindowTree","_law_draw","range","leaves","len","HEIGHT","WIDTH","split","LispSignal","_law_chosen","pop_to_buffer","Rules","display_buffer","tree_error"]) Q X:=by
 refine D6e G E hn fun sh t xs c lv fv nv av g pl hl hx h0 hc=>D6d G g pl hl hx h0 hc fun t c nv sv g pl h0 hc=>D6c G g pl hl hx h0 hc fun t c lv fv g pl h0 hc=>D6b G g pl hl fun t nv g pl hu=>D6a G g pl hl hu hx h0 hc fun t g pl hu=>D5z G B g hl hu hx (Int.le_add_one h0) (Int.lt_add_one_of_le hc) fun tb b rr cc=>?_
 by_cases hz:A8f sh t b rr cc
 ·rw [C1l hz]
  exact D4k G E g pl hl hx (by exact Z45 h0) (by exact Z46 hc) hz (D4i G g hl h)
 ·refine A3w (C1k hz) fun x l e hxn=>?_
  rw [e]
  refine D4j G E g pl hl hx (by exact Z45 h0) (by exact Z46 hc) hz hxn fun f sh' t' t'' hr hN g''=>?_
  rw [←e]
  have hl':sh'.all.length≤11:=by
   cases hr with
   |known _=>exact Nat.le_trans hl (by decide)
   |split _ _ _ hs _=>have:=hs.len;lia
   |take _ _ _ _ _ _=>exact Nat.le_trans hl (by decide)
   |none _ _ _=>exact Nat.le_trans hl (by decide)
  rcases hr.fin g hN hz with⟨rfl,en⟩|en
  ·exact D4g G g g'' hl en h
  ·exact D4h G g g'' hl hl' en h
end
theorem C2x{K:Frag}{h:Heap}{N:Addr}{mg:Str→Option Value}{n:Str}{v:Value}(X:K.In h)(G:h.Ns N mg)(e:nsIn K N n=some (some v)):mg n=some v:=by
 refine C8o G fun o es ep ho hd _ hf=>?_
 try clear G
 unfold nsIn at e
 split at e
 ·rename_i c d es' n' sl q
  have:=X _ _ q
  replace this:=(ho).symm.trans this
  cases this
  cases hd
  split at e
  ·rename_i en he
   cases e
   rw [←hf]
   unfold nsFind findBy
   rw [←Array.find?_toList,he]
   rfl
  ·split at e <;> cases e
 ·exact k1 e
theorem D4w{nm q:Str}{N:Addr}{bs:List Value}{sn:List Str}{sub:List Value}{col:Option Bool}{dd:Option Addr}{k0 k1 k2 k3 k5:Option Value}(hin:S.K.In S.base)(ho:S.base.get? S.CL=some (excClassObj nm q S.CL N bs D3s true sn sub false col dd k0 k1 k2 k3 k5 "Exception.__new__"))(hok:nsOkIn S.K N=true)(hi:nsIn S.K N "__init__"=some (some (.ref 49)))(hsa:nsIn S.K N "__setattr__"=some none)(hsy:nsIn S.K N "symbol"=some none)(hda:nsIn S.K N "data"=some none)(q2:isFn S.K (.ref 49)=true):EX S:=by
 have hN:=Heap.Ns.of_isNs (isNs_of_in hin hok)
 refine⟨⟨nm,q,N,bs,sn,sub,col,dd,k0,k1,k2,k3,k5,_,ho,hN,C2x hin hN hi,ns_none_of hin hN hsa,ns_none_of hin hN hsy,ns_none_of hin hN hda⟩,?_⟩
 have e:typeIn S.K (.ref 49)=some (.type "function"):=by simpa [isFn]using q2
 have e2:(S.K.lookup 49).map (·.cls)=some (.type "function"):=e
 obtain ⟨o,ho,q⟩:=Option.map_eq_some_iff.mp e2
 exact⟨o,hin _ _ ho,q⟩
noncomputable def D3l(prog:Program)(w:World)(K:Frag)(base:Heap)(mg mb:Str→Option Value)(os:OsState):SP:=⟨prog,w,K,base,mg,mb,178,107,322,52,os⟩
theorem join{prog:Program}{w:World}{K:Frag}{s₁:Shared}{mg mb:Str→Option Value}{h₁:Heap}{tk:Nat}{dr:Drawn}{o:Obj}{fa:Addr}{cd:Value}{p:Program}{loose:List Str}{mean:ExcName→Option Value}{m:Str→Option Value}{ns:List Int}{a:Addr}{vs:List Value}{nn:Nat}{Qf:Flow→Shared→Prop}{Ef:Value→Shared→Prop}
  (G:PG (D3l prog w K (ghostOf s₁.heap [(392,390)]) mg mb s₁.os)) (E:EK (D3l prog w K (ghostOf s₁.heap [(392,390)]) mg mb s₁.os)) (T:Top p loose mean mg mb (ghostOf s₁.heap [(392,390)]))
  (F:Fr (ghostOf s₁.heap [(392,390)]) s₁.heap.objs.size h₁ m) (hm:m "script"=some (.ref a)) (hT:TabsAt [(392,390)] s₁.heap) (N:News (ghostOf s₁.heap [(392,390)]) s₁.heap.objs.size h₁ [(s₁.heap.objs.size+1,o),(390,tabObj #[])]) (ho:o.data= .cell none)
  (l0:(390:Nat)<s₁.heap.objs.size) (hw:s₁.heap.get? a=some ⟨.type "list",none,.seq vs.toArray nn,#[]⟩) (hI:IntsAre vs ns) (hn:ns.length≤63) (hg:s₁.gens= #[])
  (hq: ∀s',(∀a o,(ghostOf s₁.heap [(392,390)]).get? a=some o→s'.heap.get? a=some o)→s'.os=s₁.os→s'.gens= #[]→(∃ps,s'.heap.get? 390=some (tabObj ps))→Qf (.ret (.bool true)) s'):
  wpAny (model prog w) (callerA.deeper ((FL fa cd).env s₁.heap.objs.size)) (execs A1h.body ((FL fa cd).env s₁.heap.objs.size)) Qf Ef {heap:=h₁,gens:=s₁.gens,drawn:=dr,toks:=tk,os:=s₁.os}:=by
 have hB:BK (D3l prog w K (ghostOf s₁.heap [(392,390)]) mg mb s₁.os):=⟨T.bmain⟩
 have hL:(ghostOf s₁.heap [(392,390)]).get? s₁.heap.objs.size=none:=by
  cases q:(ghostOf s₁.heap [(392,390)]).get? s₁.heap.objs.size with
  |none=>rfl
  |some o=>exact absurd (Heap.lt_size (of_hideAll _ q)) (Nat.lt_irrefl _)
 refine A1a (N _ (.head _)) fun n1 n2 n3=>A1a (N _ (.tail _ (.head _))) fun m1 m2 m3=>?_
 have hbase:(ghostOf s₁.heap [(392,390)]).get? a=some ⟨.type "list",none,.seq vs.toArray nn,#[]⟩:=ghost_get hT hw (fun e=>by cases e)
 refine C3b (S:=D3l prog w K (ghostOf s₁.heap [(392,390)]) mg mb s₁.os) (mm:=m) (v:= .ref a) (ns:=ns) G (C7s G E hB hn (fun _=>rfl)) ?_ ?_ rfl rfl hg rfl F.keep F.ns hm ?_ hL ⟨o,n1,ho⟩ n3 m1 m3 ?_ l0 hq
 ·show callerA.depth+1+12≤900
  exact Nat.le_of_ble_eq_true rfl
 ·show callerA.units+3+240≤9000
  exact Nat.le_of_ble_eq_true rfl
 ·exact C6l hbase (by simp only [List.toList_toArray];exact B3i hI)
 ·refine A7s ((hT _ (.head _)).1) fun o vs file tf flags y9a=>C3f y9a fun tg inF text tt h1 h2=>?_
  exact C1e o vs file tf flags (D4o tg inF text tt (ghost_get hT h1 (fun e=>by rw [e]at h2;exact absurd h2.1 (by decide))) h2)
theorem D0i{P:Params}{h:Heap}{a:Addr}{vs:List Value}{xs:List PyData}(hW:Well P h (.ref a) (ofPy (.list xs)))(hL:h.IsList a vs.toArray): ∃nn,h.get? a=some ⟨.type "list",none,.seq vs.toArray nn,#[]⟩:=by
 refine A2u hL fun o ho hc y9a=>?_
 try clear hL
 refine A0i y9a fun n hd=>?_
 have hW':Well P h (.ref a) (.list (ofPys xs)):=hW
 cases hW' with
 |list h1 h2=>rw [ho]at h1;cases h1;simp only [Data.seq.injEq]at hd;rw [hd.1]at ho;exact⟨_,ho⟩
theorem D0a(ns:List Int):PySem.Challenge.rw_np0073_01.row.claim.post [ofPy (.list (ns.map .int))] (.bool true) [ofPy (.list (ns.map .int))]=true:=by
 refine postW_of (X:=true) rfl ?_ rfl
 show WTm.value _ (.eq .res (.lit (.bool true))) _=_
 exact w_eq_bool (k:=true) (l:=true) (by rfl) (by rfl)
end
set_option Elab.async true
set_option maxRecDepth 100000
set_option maxHeartbeats 8000000
def hd.tw1572360984717153472:Unit:=()
def hd.tw10727248033764811480:Unit:=()
def hd.tw7568185435610096027:Unit:=()
def hd.tw4404688196080931383:Unit:=()
def hd.tw26425463804135960:Unit:=()
def hd.tw18227894937965515208:Unit:=()
def hd.tw13576001757907426199:Unit:=()
def hd.tw658494146261299958:Unit:=()
def hd.tw7131973826717234839:Unit:=()
def hd.tw797944442704176489:Unit:=()
def hd.tw13844380318115746083:Unit:=()
def hd.tw8134915037123179040:Unit:=()
def hd.tw3953601041324332601:Unit:=()
def hd.tw1573125329251079302:Unit:=()
def hd.tw3310731293184615908:Unit:=()
def hd.tw4185656317496899905:Unit:=()
def hd.tw8052382678804489345:Unit:=()
def hd.tw2252305205657439004:Unit:=()
def hd.tw14553816603554493358:Unit:=()
def hd.tw541196102884509978:Unit:=()
def hd.tw9430268157657104642:Unit:=()
def hd.tw7355570028127101125:Unit:=()
def hd.tw3008623586974134963:Unit:=()
def hd.tw11128854368766332075:Unit:=()
def hd.tw4993660671451451078:Unit:=()
def hd.tw16733963527221155113:Unit:=()
def hd.tw1359830224848277088:Unit:=()
def hd.tw17711083657039698284:Unit:=()
def hd.tw5174551420813472067:Unit:=()
def hd.tw16240987189780228909:Unit:=()
def hd.tw17739348878880393726:Unit:=()
def hd.tw15367242080415987702:Unit:=()
def hd.tw991583007596301734:Unit:=()
def hd.tw11251137523995926341:Unit:=()
def hd.tw10525666975642140466:Unit:=()
def hd.tw212345690472687942:Unit:=()
def hd.tw9345676750909349944:Unit:=()
def hd.tw12112201142124510154:Unit:=()
def hd.tw12647368939536790636:Unit:=()
def hd.tw2603259988358896889:Unit:=()
def hd.tw8671608845466749128:Unit:=()
def hd.tw11754176132448286083:Unit:=()
def hd.tw9345929723534960622:Unit:=()
def hd.tw12399718760709695909:Unit:=()
def hd.tw14892549342360969540:Unit:=()
def hd.tw15833661619300960221:Unit:=()
def hd.tw6407587892757256292:Unit:=()
def hd.tw4297731678662094536:Unit:=()
def hd.tw12070051907170230399:Unit:=()
def hd.tw11869253278440568778:Unit:=()
def hd.tw11893437276241958245:Unit:=()
def hd.tw3480954088277226078:Unit:=()
def hd.tw5363564295841288755:Unit:=()
def hd.tw13181700845877081190:Unit:=()
def hd.tw7494724483528729301:Unit:=()
def hd.tw6990203504111849199:Unit:=()
def hd.tw8727321023445011275:Unit:=()
def hd.tw8457440626546761165:Unit:=()
def hd.tw12050417470231563642:Unit:=()
def hd.tw17542962492245011380:Unit:=()
def hd.tw3530705653197291679:Unit:=()
def hd.tw8117029840178788049:Unit:=()
def hd.tw11631869004601391166:Unit:=()
def hd.tw16412773359747925120:Unit:=()
def hd.tw15166520500009309586:Unit:=()
def hd.tw6555240042291301478:Unit:=()
def hd.tw4015398097383911347:Unit:=()
def hd.tw1847840615245081061:Unit:=()
def hd.tw3452082135128663414:Unit:=()
def hd.tw10614716105012338702:Unit:=()
def hd.tw3429492842335990350:Unit:=()
def hd.tw6767318904944593275:Unit:=()
def hd.tw9641152695372364146:Unit:=()
def hd.tw9277588360372424766:Unit:=()
def hd.tw15759970867653108152:Unit:=()
def hd.tw9748044761591592747:Unit:=()
def hd.tw16011055738799735888:Unit:=()
def hd.tw7540655947842036084:Unit:=()
def hd.tw3442329435671937591:Unit:=()
def hd.tw1800889605409440832:Unit:=()
def hd.tw8268277133935991078:Unit:=()
def hd.tw10603584201595350602:Unit:=()
def hd.tw16868993833207775613:Unit:=()
def hd.tw3759623122121258479:Unit:=()
def hd.tw15683763237869141255:Unit:=()
def hd.tw6184460063843016694:Unit:=()
def hd.tw3182187488490625086:Unit:=()
def hd.tw1997569388931296116:Unit:=()
def hd.tw5732804406350252772:Unit:=()
def hd.tw10216474801634566288:Unit:=()
def hd.tw17047115858639842297:Unit:=()
def hd.tw13855946660403688772:Unit:=()
def hd.tw17673860158736603733:Unit:=()
def hd.tw16194383521188589630:Unit:=()
def hd.tw15089522573102190283:Unit:=()
def hd.tw4494801613693538912:Unit:=()
def hd.tw17183224562656869120:Unit:=()
def hd.tw1382963296337349011:Unit:=()
def hd.tw3646829019195819677:Unit:=()
def hd.tw6060742912462422084:Unit:=()
def hd.tw17447410573909459338:Unit:=()
def hd.tw8960069828448710407:Unit:=()
def hd.tw6785817131721698500:Unit:=()
def hd.tw11117797201346649052:Unit:=()
def hd.tw5366084841770067474:Unit:=()
def hd.tw12092154237167983948:Unit:=()
def hd.tw6276725880618359904:Unit:=()
def hd.tw8458067239894703972:Unit:=()
def hd.tw10111801491309104144:Unit:=()
def hd.tw7023726343779634624:Unit:=()
def hd.tw6830512106363814048:Unit:=()
def hd.tw18300207936620678264:Unit:=()
def hd.tw2887051446865420828:Unit:=()
def hd.tw13330244855972007585:Unit:=()
def hd.tw4065347644161347641:Unit:=()
def hd.tw7082855905992002993:Unit:=()
def hd.tw15615420239508185596:Unit:=()
def hd.tw5781342201191254626:Unit:=()
def hd.tw17599816209265215132:Unit:=()
def hd.tw4315991029959535628:Unit:=()
def hd.tw3381375190539634487:Unit:=()
def hd.tw5036846961687405229:Unit:=()
def hd.tw7754304195085646258:Unit:=()
def hd.tw13368278939475635651:Unit:=()
def hd.tw15837987909243819085:Unit:=()
def hd.tw16853341256802265648:Unit:=()
def hd.tw11917015161858427179:Unit:=()
def hd.tw18293732401869909652:Unit:=()
def hd.tw17574625026820762457:Unit:=()
def hd.tw16772102934027710169:Unit:=()
def hd.tw18093812233618175256:Unit:=()
def hd.tw7120233287515763914:Unit:=()
def hd.tw3828038474966422129:Unit:=()
def hd.tw17975533764899295144:Unit:=()
def hd.tw12487502673411948298:Unit:=()
def hd.tw2195365466389143174:Unit:=()
def hd.tw16064382804478563927:Unit:=()
def hd.tw15042006015671813226:Unit:=()
def hd.tw4377701919642642989:Unit:=()
def hd.tw6291416237084387574:Unit:=()
def hd.tw6819123309680001836:Unit:=()
def hd.tw6924109203229866365:Unit:=()
def hd.tw7366208706002141716:Unit:=()
def hd.tw6293948785866598258:Unit:=()
def hd.tw16299908979028503884:Unit:=()
def hd.tw2608437505485318709:Unit:=()
def hd.tw4014540891139286612:Unit:=()
def hd.tw18291419657060728153:Unit:=()
def hd.tw8716120427605611371:Unit:=()
def hd.tw4971549296188076032:Unit:=()
def hd.tw7519716089354478335:Unit:=()
def hd.tw2167537188350426706:Unit:=()
def hd.tw5282504435634884242:Unit:=()
def hd.tw14353793391729792155:Unit:=()
def hd.tw978945382295711627:Unit:=()
def hd.tw6838551448383532254:Unit:=()
def hd.tw6998783941825042932:Unit:=()
def hd.tw13217225542625558698:Unit:=()
def hd.tw5635641802508607975:Unit:=()
def hd.tw17681399029576232318:Unit:=()
def hd.tw3493717111155160527:Unit:=()
def hd.tw9170477692918782315:Unit:=()
def hd.tw701787995468756871:Unit:=()
def hd.tw13783031573616600631:Unit:=()
def hd.tw17420951861521290806:Unit:=()
def hd.tw4225703048834024713:Unit:=()
def hd.tw15616948245753086127:Unit:=()
def hd.tw11389486352061984695:Unit:=()
def hd.tw16037735763661986305:Unit:=()
def hd.tw3795277891434052102:Unit:=()
def hd.tw1760603350576429475:Unit:=()
def hd.tw3229955645248102723:Unit:=()
def hd.tw14955159897011116063:Unit:=()
def hd.tw1413172679324656950:Unit:=()
def hd.tw7763873220885509757:Unit:=()
def hd.tw8879563391730754479:Unit:=()
def hd.tw3350844169311001129:Unit:=()
def hd.tw11660266114150955751:Unit:=()
def hd.tw14705683404202351889:Unit:=()
def hd.tw11953376511379268794:Unit:=()
theorem hd:PySem.Challenge.rw_np0073_01.Holds:=by
  (w_on;o_law;k_head;(case hw=>w_witness2);w_strict (
    k_go0
    rename_i W s0 s1 mg mb _ _ fa o pm cd doc ho hcd hg X V T B TE TW ns hs hlay0 hL1 hr1 hl2 w5 w4 la vs w1' hL ra hW r0 hI hr hc1 hc2 hD h1 tk1 ob hob X0 X' T' K' F' N' l0
    clear hcd hD X0 K' TE TW B X V T hT8 lifted codeHd r0 hr hc2 hs hlay0 hL1 hr1 hl2 ra ho
    have hGE: ∀(S:SP),S.K=hd.heap_1_39 W.params→S.CW=107→S.CT=178→S.CR=322→S.CL=52→S.K.In S.base→(∃p loose mean,Top p loose mean S.mg S.mb S.base)→PG S∧EK S:=by
     clear X' T' F' N' hob
     intro S hK hC1 hC2 hC3 hC4 hin hT
     obtain ⟨p,loose,mean,T⟩:=hT
     all_goals (
      have f_oldest_leaf:FnOK S A4t:=by
        refine A6w (by rw [hK];rfl) (fun s vals hk hl=>?_) (by rw [hK];kernel_rfl) (by rw [hK];kernel_rfl) (by decide +kernel)
        have hl:vals.length=2:=hl
        obtain ⟨v1,v2,rfl⟩:=B5d hl
        exact⟨[],fun _ _ _=>A0c.nil,BindsTo.of_eq rfl⟩
      have f_largest_leaf:FnOK S A4a:=by
        refine A6w (by rw [hK];rfl) (fun s vals hk hl=>?_) (by rw [hK];kernel_rfl) (by rw [hK];kernel_rfl) (by decide +kernel)
        have hl:vals.length=2:=hl
        obtain ⟨v1,v2,rfl⟩:=B5d hl
        exact⟨[],fun _ _ _=>A0c.nil,BindsTo.of_eq rfl⟩
      have f_LispSignal_init:FnOK S A0n:=by
        refine A6w (by rw [hK];rfl) (fun s vals hk hl=>?_) (by rw [hK];kernel_rfl) (by rw [hK];kernel_rfl) (by decide +kernel)
        have hl:vals.length=3:=hl
        obtain ⟨v1,v2,v3,rfl⟩:=C3a hl
        exact⟨[],fun _ _ _=>A0c.nil,BindsTo.of_eq rfl⟩
      have f_Window_init:FnOK S A4w:=by
        refine A6w (by rw [hK];rfl) (fun s vals hk hl=>?_) (by rw [hK];kernel_rfl) (by rw [hK];kernel_rfl) (by decide +kernel)
        have hl:vals.length=4:=hl
        obtain ⟨v1,v2,v3,v4,rfl⟩:=D2i hl
        exact⟨[],fun _ _ _=>A0c.nil,BindsTo.of_eq rfl⟩
      have f_Window_size:FnOK S A4u:=by
        refine A6w (by rw [hK];rfl) (fun s vals hk hl=>?_) (by rw [hK];kernel_rfl) (by rw [hK];kernel_rfl) (by decide +kernel)
        have hl:vals.length=2:=hl
        obtain ⟨v1,v2,rfl⟩:=B5d hl
        exact⟨[],fun _ _ _=>A0c.nil,BindsTo.of_eq rfl⟩
      have f_Window_set_size:FnOK S A2j:=by
        refine A6w (by rw [hK];rfl) (fun s vals hk hl=>?_) (by rw [hK];kernel_rfl) (by rw [hK];kernel_rfl) (by decide +kernel)
        have hl:vals.length=3:=hl
        obtain ⟨v1,v2,v3,rfl⟩:=C3a hl
        exact⟨[],fun _ _ _=>A0c.nil,BindsTo.of_eq rfl⟩
      have f_Window_place:FnOK S A4c:=by
        refine A6w (by rw [hK];rfl) (fun s vals hk hl=>?_) (by rw [hK];kernel_rfl) (by rw [hK];kernel_rfl) (by decide +kernel)
        have hl:vals.length=2:=hl
        obtain ⟨v1,v2,rfl⟩:=B5d hl
        exact⟨[],fun _ _ _=>A0c.nil,BindsTo.of_eq rfl⟩
      have f_Window_shown:FnOK S A4b:=by
        refine A6w (by rw [hK];rfl) (fun s vals hk hl=>?_) (by rw [hK];kernel_rfl) (by rw [hK];kernel_rfl) (by decide +kernel)
        have hl:vals.length=1:=hl
        obtain ⟨v1,rfl⟩:=C7q hl
        exact⟨[],fun _ _ _=>A0c.nil,BindsTo.of_eq rfl⟩
      have f_Window_show:FnOK S A4v:=by
        refine A6w (by rw [hK];rfl) (fun s vals hk hl=>?_) (by rw [hK];kernel_rfl) (by rw [hK];kernel_rfl) (by decide +kernel)
        have hl:vals.length=2:=hl
        obtain ⟨v1,v2,rfl⟩:=B5d hl
        exact⟨[],fun _ _ _=>A0c.nil,BindsTo.of_eq rfl⟩
      have f_WindowTree_init:FnOK S A2l:=by
        refine A6w (by rw [hK];rfl) (fun s vals hk hl=>?_) (by rw [hK];kernel_rfl) (by rw [hK];kernel_rfl) (by decide +kernel)
        have hl:vals.length=6:=hl
        obtain ⟨v1,v2,v3,v4,v5,v6,rfl⟩:=D5y hl
        have ho:=hin 119 _ (by rw [hK];rfl)
        exact⟨[],fun _ _ _=>A0c.nil,BindsTo.of_defaults rfl (hk _ _ ho) rfl rfl rfl⟩
      have f_WindowTree_fresh:FnOK S A2b:=by
        refine A6w (by rw [hK];rfl) (fun s vals hk hl=>?_) (by rw [hK];kernel_rfl) (by rw [hK];kernel_rfl) (by decide +kernel)
        have hl:vals.length=3:=hl
        obtain ⟨v1,v2,v3,rfl⟩:=C3a hl
        exact⟨[],fun _ _ _=>A0c.nil,BindsTo.of_eq rfl⟩
      have f_WindowTree_window:FnOK S A1v:=by
        refine A6w (by rw [hK];rfl) (fun s vals hk hl=>?_) (by rw [hK];kernel_rfl) (by rw [hK];kernel_rfl) (by decide +kernel)
        have hl:vals.length=2:=hl
        obtain ⟨v1,v2,rfl⟩:=B5d hl
        exact⟨[],fun _ _ _=>A0c.nil,BindsTo.of_eq rfl⟩
      have f_WindowTree_leaf:FnOK S A2k:=by
        refine A6w (by rw [hK];rfl) (fun s vals hk hl=>?_) (by rw [hK];kernel_rfl) (by rw [hK];kernel_rfl) (by decide +kernel)
        have hl:vals.length=2:=hl
        obtain ⟨v1,v2,rfl⟩:=B5d hl
        exact⟨[],fun _ _ _=>A0c.nil,BindsTo.of_eq rfl⟩
      have f_WindowTree_touch:FnOK S A2a:=by
        refine A6w (by rw [hK];rfl) (fun s vals hk hl=>?_) (by rw [hK];kernel_rfl) (by rw [hK];kernel_rfl) (by decide +kernel)
        have hl:vals.length=2:=hl
        obtain ⟨v1,v2,rfl⟩:=B5d hl
        exact⟨[],fun _ _ _=>A0c.nil,BindsTo.of_eq rfl⟩
      have f_WindowTree_select:FnOK S A1w:=by
        refine A6w (by rw [hK];rfl) (fun s vals hk hl=>?_) (by rw [hK];kernel_rfl) (by rw [hK];kernel_rfl) (by decide +kernel)
        have hl:vals.length=2:=hl
        obtain ⟨v1,v2,rfl⟩:=B5d hl
        exact⟨[],fun _ _ _=>A0c.nil,BindsTo.of_eq rfl⟩
      have f_WindowTree_least_leaf:FnOK S A1e:=by
        refine A6w (by rw [hK];rfl) (fun s vals hk hl=>?_) (by rw [hK];kernel_rfl) (by rw [hK];kernel_rfl) (by decide +kernel)
        have hl:vals.length=2:=hl
        obtain ⟨v1,v2,rfl⟩:=B5d hl
        exact⟨[],fun _ _ _=>A0c.nil,BindsTo.of_eq rfl⟩
      have f_along:FnOK S B5b:=by
        refine A6w (by rw [hK];rfl) (fun s vals hk hl=>?_) (by rw [hK];kernel_rfl) (by rw [hK];kernel_rfl) (by decide +kernel)
        have hl:vals.length=1:=hl
        obtain ⟨v1,rfl⟩:=C7q hl
        exact⟨[],fun _ _ _=>A0c.nil,BindsTo.of_eq rfl⟩
      have f_sort_along:FnOK S A5o:=by
        refine A6w (by rw [hK];rfl) (fun s vals hk hl=>?_) (by rw [hK];kernel_rfl) (by rw [hK];kernel_rfl) (by decide +kernel)
        have hl:vals.length=1:=hl
        obtain ⟨v1,rfl⟩:=C7q hl
        exact⟨[],fun _ _ _=>A0c.nil,BindsTo.of_eq rfl⟩
      have f_leaves_under:FnOK S A3z:=by
        refine A6w (by rw [hK];rfl) (fun s vals hk hl=>?_) (by rw [hK];kernel_rfl) (by rw [hK];kernel_rfl) (by decide +kernel)
        have hl:vals.length=2:=hl
        obtain ⟨v1,v2,rfl⟩:=B5d hl
        exact⟨[],fun _ _ _=>A0c.nil,BindsTo.of_eq rfl⟩
      have f_leaves:FnOK S B1h:=by
        refine A6w (by rw [hK];rfl) (fun s vals hk hl=>?_) (by rw [hK];kernel_rfl) (by rw [hK];kernel_rfl) (by decide +kernel)
        have hl:vals.length=1:=hl
        obtain ⟨v1,rfl⟩:=C7q hl
        exact⟨[],fun _ _ _=>A0c.nil,BindsTo.of_eq rfl⟩
      have f_windows_under:FnOK S A3f:=by
        refine A6w (by rw [hK];rfl) (fun s vals hk hl=>?_) (by rw [hK];kernel_rfl) (by rw [hK];kernel_rfl) (by decide +kernel)
        have hl:vals.length=2:=hl
        obtain ⟨v1,v2,rfl⟩:=B5d hl
        exact⟨[],fun _ _ _=>A0c.nil,BindsTo.of_eq rfl⟩
      have f_replace_child:FnOK S A3h:=by
        refine A6w (by rw [hK];rfl) (fun s vals hk hl=>?_) (by rw [hK];kernel_rfl) (by rw [hK];kernel_rfl) (by decide +kernel)
        have hl:vals.length=3:=hl
        obtain ⟨v1,v2,v3,rfl⟩:=C3a hl
        exact⟨[],fun _ _ _=>A0c.nil,BindsTo.of_eq rfl⟩
      have f_least_size:FnOK S A5q:=by
        refine A6w (by rw [hK];rfl) (fun s vals hk hl=>?_) (by rw [hK];kernel_rfl) (by rw [hK];kernel_rfl) (by decide +kernel)
        have hl:vals.length=3:=hl
        obtain ⟨v1,v2,v3,rfl⟩:=C3a hl
        exact⟨[],fun _ _ _=>A0c.nil,BindsTo.of_eq rfl⟩
      have f_set_tree_size:FnOK S A3g:=by
        refine A6w (by rw [hK];rfl) (fun s vals hk hl=>?_) (by rw [hK];kernel_rfl) (by rw [hK];kernel_rfl) (by decide +kernel)
        have hl:vals.length=4:=hl
        obtain ⟨v1,v2,v3,v4,rfl⟩:=D2i hl
        exact⟨[],fun _ _ _=>A0c.nil,BindsTo.of_eq rfl⟩
      have f_set_places:FnOK S A5p:=by
        refine A6w (by rw [hK];rfl) (fun s vals hk hl=>?_) (by rw [hK];kernel_rfl) (by rw [hK];kernel_rfl) (by decide +kernel)
        have hl:vals.length=1:=hl
        obtain ⟨v1,rfl⟩:=C7q hl
        exact⟨[],fun _ _ _=>A0c.nil,BindsTo.of_eq rfl⟩
      have f_wrong_window:FnOK S A3y:=by
        refine A6w (by rw [hK];rfl) (fun s vals hk hl=>?_) (by rw [hK];kernel_rfl) (by rw [hK];kernel_rfl) (by decide +kernel)
        have hl:vals.length=2:=hl
        obtain ⟨v1,v2,rfl⟩:=B5d hl
        exact⟨[],fun _ _ _=>A0c.nil,BindsTo.of_eq rfl⟩
      have f_tree_error:FnOK S A5n:=by
        refine A6w (by rw [hK];rfl) (fun s vals hk hl=>?_) (by rw [hK];kernel_rfl) (by rw [hK];kernel_rfl) (by decide +kernel)
        have hl:vals.length=1:=hl
        obtain ⟨v1,rfl⟩:=C7q hl
        exact⟨[],fun _ _ _=>A0c.nil,BindsTo.of_eq rfl⟩
      have f_split_parts:FnOK S A1d:=by
        refine A6w (by rw [hK];rfl) (fun s vals hk hl=>?_) (by rw [hK];kernel_rfl) (by rw [hK];kernel_rfl) (by decide +kernel)
        have hl:vals.length=4:=hl
        obtain ⟨v1,v2,v3,v4,rfl⟩:=D2i hl
        exact⟨[],fun _ _ _=>A0c.nil,BindsTo.of_eq rfl⟩
      have f_combined:FnOK S A4h:=by
        refine A6w (by rw [hK];rfl) (fun s vals hk hl=>?_) (by rw [hK];kernel_rfl) (by rw [hK];kernel_rfl) (by decide +kernel)
        have hl:vals.length=3:=hl
        obtain ⟨v1,v2,v3,rfl⟩:=C3a hl
        exact⟨[],fun _ _ _=>A0c.nil,BindsTo.of_eq rfl⟩
      have f_split:FnOK S A6v:=by
        refine A6w (by rw [hK];rfl) (fun s vals hk hl=>?_) (by rw [hK];kernel_rfl) (by rw [hK];kernel_rfl) (by decide +kernel)
        have hl:vals.length=5:=hl
        obtain ⟨v1,v2,v3,v4,v5,rfl⟩:=D5i hl
        exact⟨[],fun _ _ _=>A0c.nil,BindsTo.of_eq rfl⟩
      have f_joined:FnOK S B1i:=by
        refine A6w (by rw [hK];rfl) (fun s vals hk hl=>?_) (by rw [hK];kernel_rfl) (by rw [hK];kernel_rfl) (by decide +kernel)
        have hl:vals.length=2:=hl
        obtain ⟨v1,v2,rfl⟩:=B5d hl
        exact⟨[],fun _ _ _=>A0c.nil,BindsTo.of_eq rfl⟩
      have f_split_below:FnOK S A3o:=by
        refine A6w (by rw [hK];rfl) (fun s vals hk hl=>?_) (by rw [hK];kernel_rfl) (by rw [hK];kernel_rfl) (by decide +kernel)
        have hl:vals.length+1=3:=hl
        obtain ⟨v1,v2,rfl⟩:=B5d (l:=vals) (by omega)
        have ho:=hin 289 _ (by rw [hK];rfl)
        refine⟨[Value.none],fun P z Φ=>?_,BindsTo.of_defaults rfl (hk _ _ ho) rfl rfl rfl⟩
        exact A0c.cons B6u A0c.nil
      have f_split_right:FnOK S A3n:=by
        refine A6w (by rw [hK];rfl) (fun s vals hk hl=>?_) (by rw [hK];kernel_rfl) (by rw [hK];kernel_rfl) (by decide +kernel)
        have hl:vals.length+1=3:=hl
        obtain ⟨v1,v2,rfl⟩:=B5d (l:=vals) (by omega)
        have ho:=hin 297 _ (by rw [hK];rfl)
        refine⟨[Value.none],fun P z Φ=>?_,BindsTo.of_defaults rfl (hk _ _ ho) rfl rfl rfl⟩
        exact A0c.cons B6u A0c.nil
      have f_Rules_init:FnOK S A5t:=by
        refine A6w (by rw [hK];rfl) (fun s vals hk hl=>?_) (by rw [hK];kernel_rfl) (by rw [hK];kernel_rfl) (by decide +kernel)
        have hl:vals.length=3:=hl
        obtain ⟨v1,v2,v3,rfl⟩:=C3a hl
        have ho:=hin 312 _ (by rw [hK];rfl)
        exact⟨[],fun _ _ _=>A0c.nil,BindsTo.of_defaults rfl (hk _ _ ho) rfl rfl rfl⟩
      have f_windows_of:FnOK S A5m:=by
        refine A6w (by rw [hK];rfl) (fun s vals hk hl=>?_) (by rw [hK];kernel_rfl) (by rw [hK];kernel_rfl) (by decide +kernel)
        have hl:vals.length=2:=hl
        obtain ⟨v1,v2,rfl⟩:=B5d hl
        exact⟨[],fun _ _ _=>A0c.nil,BindsTo.of_eq rfl⟩
      have f_without:FnOK S A9d:=by
        refine A6w (by rw [hK];rfl) (fun s vals hk hl=>?_) (by rw [hK];kernel_rfl) (by rw [hK];kernel_rfl) (by decide +kernel)
        have hl:vals.length=2:=hl
        obtain ⟨v1,v2,rfl⟩:=B5d hl
        exact⟨[],fun _ _ _=>A0c.nil,BindsTo.of_eq rfl⟩
      have f_show_buffer:FnOK S A4s:=by
        refine A6w (by rw [hK];rfl) (fun s vals hk hl=>?_) (by rw [hK];kernel_rfl) (by rw [hK];kernel_rfl) (by decide +kernel)
        have hl:vals.length+2=5:=hl
        obtain ⟨v1,v2,v3,rfl⟩:=C3a (l:=vals) (by omega)
        have ho:=hin 337 _ (by rw [hK];rfl)
        refine⟨[Value.int 1 683,Value.int 1 684],fun P z Φ=>?_,BindsTo.of_defaults rfl (hk _ _ ho) rfl rfl rfl⟩
        exact A0c.cons B5f (A0c.cons B5f A0c.nil)
      have f_split_for:FnOK S A6u:=by
        refine A6w (by rw [hK];rfl) (fun s vals hk hl=>?_) (by rw [hK];kernel_rfl) (by rw [hK];kernel_rfl) (by decide +kernel)
        have hl:vals.length=3:=hl
        obtain ⟨v1,v2,v3,rfl⟩:=C3a hl
        exact⟨[],fun _ _ _=>A0c.nil,BindsTo.of_eq rfl⟩
      have f_split_somewhere:FnOK S A2i:=by
        refine A6w (by rw [hK];rfl) (fun s vals hk hl=>?_) (by rw [hK];kernel_rfl) (by rw [hK];kernel_rfl) (by decide +kernel)
        have hl:vals.length=2:=hl
        obtain ⟨v1,v2,rfl⟩:=B5d hl
        exact⟨[],fun _ _ _=>A0c.nil,BindsTo.of_eq rfl⟩
      have f_usable:FnOK S B1g:=by
        refine A6w (by rw [hK];rfl) (fun s vals hk hl=>?_) (by rw [hK];kernel_rfl) (by rw [hK];kernel_rfl) (by decide +kernel)
        have hl:vals.length=1:=hl
        obtain ⟨v1,rfl⟩:=C7q hl
        exact⟨[],fun _ _ _=>A0c.nil,BindsTo.of_eq rfl⟩
      have f_display_buffer:FnOK S A2r:=by
        refine A6w (by rw [hK];rfl) (fun s vals hk hl=>?_) (by rw [hK];kernel_rfl) (by rw [hK];kernel_rfl) (by decide +kernel)
        have hl:vals.length+1=4:=hl
        obtain ⟨v1,v2,v3,rfl⟩:=C3a (l:=vals) (by omega)
        have ho:=hin 362 _ (by rw [hK];rfl)
        refine⟨[Value.bool false],fun P z Φ=>?_,BindsTo.of_defaults rfl (hk _ _ ho) rfl rfl rfl⟩
        exact A0c.cons A7i A0c.nil
      have f_pop_to_buffer:FnOK S A3i:=by
        refine A6w (by rw [hK];rfl) (fun s vals hk hl=>?_) (by rw [hK];kernel_rfl) (by rw [hK];kernel_rfl) (by decide +kernel)
        have hl:vals.length=3:=hl
        obtain ⟨v1,v2,v3,rfl⟩:=C3a hl
        exact⟨[],fun _ _ _=>A0c.nil,BindsTo.of_eq rfl⟩
      have f_law_draw:FnOK S A7t:=by
        refine A6w (by rw [hK];rfl) (fun s vals hk hl=>?_) (by rw [hK];kernel_rfl) (by rw [hK];kernel_rfl) (by decide +kernel)
        have hl:vals.length=2:=hl
        obtain ⟨v1,v2,rfl⟩:=B5d hl
        exact⟨[],fun _ _ _=>A0c.nil,BindsTo.of_eq rfl⟩
      have f_law_splits:FnOK S A5r:=by
        refine A6w (by rw [hK];rfl) (fun s vals hk hl=>?_) (by rw [hK];kernel_rfl) (by rw [hK];kernel_rfl) (by decide +kernel)
        have hl:vals.length=3:=hl
        obtain ⟨v1,v2,v3,rfl⟩:=C3a hl
        exact⟨[],fun _ _ _=>A0c.nil,BindsTo.of_eq rfl⟩
      have f_law_chosen:FnOK S A5s:=by
        refine A6w (by rw [hK];rfl) (fun s vals hk hl=>?_) (by rw [hK];kernel_rfl) (by rw [hK];kernel_rfl) (by decide +kernel)
        have hl:vals.length=4:=hl
        obtain ⟨v1,v2,v3,v4,rfl⟩:=D2i hl
        exact⟨[],fun _ _ _=>A0c.nil,BindsTo.of_eq rfl⟩
      have f_law:FnOK S A1h:=by
        refine A6w (by rw [hK];rfl) (fun s vals hk hl=>?_) (by rw [hK];kernel_rfl) (by rw [hK];kernel_rfl) (by decide +kernel)
        have hl:vals.length=1:=hl
        obtain ⟨v1,rfl⟩:=C7q hl
        exact⟨[],fun _ _ _=>A0c.nil,BindsTo.of_eq rfl⟩
      have ok:SOK S:=by
        refine⟨hin,T.nolimit,T.g,T.b,?_,?_,?_,?_⟩
        · have e:(A7u.all fun f=>A9v S.K S.CW f)=true:=by rw [hK,hC1];kernel_rfl
          exact fun f hf=>List.all_eq_true.mp e f hf
        · have e:(A7u.all fun f=>B2l S.K S.CW f)=true:=by rw [hK,hC1];kernel_rfl
          exact fun f hf=>List.all_eq_true.mp e f hf
        · have e:(A9g.all fun f=>A9v S.K S.CT f)=true:=by rw [hK,hC2];kernel_rfl
          exact fun f hf=>List.all_eq_true.mp e f hf
        · have e:(A9g.all fun f=>B2l S.K S.CT f)=true:=by rw [hK,hC2];kernel_rfl
          exact fun f hf=>List.all_eq_true.mp e f hf
      have g_oldest_leaf:S.mg "oldest_leaf"=some (.ref 28):=mg_of hin T.g (by rw [hK];kernel_rfl)
      have g_largest_leaf:S.mg "largest_leaf"=some (.ref 35):=mg_of hin T.g (by rw [hK];kernel_rfl)
      have m_Window_size:A2m S.K S.CW "size" 76=true:=by rw [hK,hC1];kernel_rfl
      have m_Window_set_size:A2m S.K S.CW "set_size" 83=true:=by rw [hK,hC1];kernel_rfl
      have m_Window_place:A2m S.K S.CW "place" 90=true:=by rw [hK,hC1];kernel_rfl
      have m_Window_shown:A2m S.K S.CW "shown" 97=true:=by rw [hK,hC1];kernel_rfl
      have m_Window_show:A2m S.K S.CW "show" 104=true:=by rw [hK,hC1];kernel_rfl
      have m_WindowTree_fresh:A2m S.K S.CT "fresh" 133=true:=by rw [hK,hC2];kernel_rfl
      have m_WindowTree_window:A2m S.K S.CT "window" 140=true:=by rw [hK,hC2];kernel_rfl
      have m_WindowTree_leaf:A2m S.K S.CT "leaf" 147=true:=by rw [hK,hC2];kernel_rfl
      have m_WindowTree_touch:A2m S.K S.CT "touch" 154=true:=by rw [hK,hC2];kernel_rfl
      have m_WindowTree_select:A2m S.K S.CT "select" 161=true:=by rw [hK,hC2];kernel_rfl
      have m_WindowTree_least_leaf:A2m S.K S.CT "least_leaf" 168=true:=by rw [hK,hC2];kernel_rfl
      have g_along:S.mg "along"=some (.ref 189):=mg_of hin T.g (by rw [hK];kernel_rfl)
      have g_sort_along:S.mg "sort_along"=some (.ref 196):=mg_of hin T.g (by rw [hK];kernel_rfl)
      have g_leaves_under:S.mg "leaves_under"=some (.ref 203):=mg_of hin T.g (by rw [hK];kernel_rfl)
      have g_leaves:S.mg "leaves"=some (.ref 210):=mg_of hin T.g (by rw [hK];kernel_rfl)
      have g_windows_under:S.mg "windows_under"=some (.ref 217):=mg_of hin T.g (by rw [hK];kernel_rfl)
      have g_replace_child:S.mg "replace_child"=some (.ref 224):=mg_of hin T.g (by rw [hK];kernel_rfl)
      have g_least_size:S.mg "least_size"=some (.ref 229):=mg_of hin T.g (by rw [hK];kernel_rfl)
      have g_set_tree_size:S.mg "set_tree_size"=some (.ref 239):=mg_of hin T.g (by rw [hK];kernel_rfl)
      have g_set_places:S.mg "set_places"=some (.ref 246):=mg_of hin T.g (by rw [hK];kernel_rfl)
      have g_wrong_window:S.mg "wrong_window"=some (.ref 253):=mg_of hin T.g (by rw [hK];kernel_rfl)
      have g_tree_error:S.mg "tree_error"=some (.ref 260):=mg_of hin T.g (by rw [hK];kernel_rfl)
      have g_split_parts:S.mg "split_parts"=some (.ref 267):=mg_of hin T.g (by rw [hK];kernel_rfl)
      have g_combined:S.mg "combined"=some (.ref 274):=mg_of hin T.g (by rw [hK];kernel_rfl)
      have g_split:S.mg "split"=some (.ref 281):=mg_of hin T.g (by rw [hK];kernel_rfl)
      have g_joined:S.mg "joined"=some (.ref 288):=mg_of hin T.g (by rw [hK];kernel_rfl)
      have g_split_below:S.mg "split_below"=some (.ref 296):=mg_of hin T.g (by rw [hK];kernel_rfl)
      have g_split_right:S.mg "split_right"=some (.ref 304):=mg_of hin T.g (by rw [hK];kernel_rfl)
      have g_windows_of:S.mg "windows_of"=some (.ref 331):=mg_of hin T.g (by rw [hK];kernel_rfl)
      have g_without:S.mg "without"=some (.ref 336):=mg_of hin T.g (by rw [hK];kernel_rfl)
      have g_show_buffer:S.mg "show_buffer"=some (.ref 342):=mg_of hin T.g (by rw [hK];kernel_rfl)
      have g_split_for:S.mg "split_for"=some (.ref 349):=mg_of hin T.g (by rw [hK];kernel_rfl)
      have g_split_somewhere:S.mg "split_somewhere"=some (.ref 356):=mg_of hin T.g (by rw [hK];kernel_rfl)
      have g_usable:S.mg "usable"=some (.ref 361):=mg_of hin T.g (by rw [hK];kernel_rfl)
      have g_display_buffer:S.mg "display_buffer"=some (.ref 367):=mg_of hin T.g (by rw [hK];kernel_rfl)
      have g_pop_to_buffer:S.mg "pop_to_buffer"=some (.ref 374):=mg_of hin T.g (by rw [hK];kernel_rfl)
      have g_law_draw:S.mg "_law_draw"=some (.ref 381):=mg_of hin T.g (by rw [hK];kernel_rfl)
      have g_law_splits:S.mg "_law_splits"=some (.ref 388):=mg_of hin T.g (by rw [hK];kernel_rfl)
      have g_law_chosen:S.mg "_law_chosen"=some (.ref 393):=mg_of hin T.g (by rw [hK];kernel_rfl)
      have g_law:S.mg "law"=some (.ref 398):=mg_of hin T.g (by rw [hK];kernel_rfl)
      have c_LEAF: ∃tk,S.mg "LEAF"=some (.int 0 tk):=⟨_,mg_of hin T.g (by rw [hK];rfl)⟩
      have c_COLUMN: ∃tk,S.mg "COLUMN"=some (.int 1 tk):=⟨_,mg_of hin T.g (by rw [hK];rfl)⟩
      have c_ROW: ∃tk,S.mg "ROW"=some (.int 2 tk):=⟨_,mg_of hin T.g (by rw [hK];rfl)⟩
      have c_WIDTH: ∃tk,S.mg "WIDTH"=some (.int 0 tk):=⟨_,mg_of hin T.g (by rw [hK];rfl)⟩
      have c_HEIGHT: ∃tk,S.mg "HEIGHT"=some (.int 1 tk):=⟨_,mg_of hin T.g (by rw [hK];rfl)⟩
      have b_len:S.mg "len"=none∧S.mb "len"=some (.builtin "len"):=⟨mg_none_of hin T.g (by rw [hK];kernel_rfl),(T.builtins _ (by decide)).trans (by decide +kernel)⟩
      have b_sum:S.mg "sum"=none∧S.mb "sum"=some (.builtin "sum"):=⟨mg_none_of hin T.g (by rw [hK];kernel_rfl),(T.builtins _ (by decide)).trans (by decide +kernel)⟩
      have b_max:S.mg "max"=none∧S.mb "max"=some (.builtin "max"):=⟨mg_none_of hin T.g (by rw [hK];kernel_rfl),(T.builtins _ (by decide)).trans (by decide +kernel)⟩
      have b_sorted:S.mg "sorted"=none∧S.mb "sorted"=some (.builtin "sorted"):=⟨mg_none_of hin T.g (by rw [hK];kernel_rfl),(T.builtins _ (by decide)).trans (by decide +kernel)⟩
      have b_abs:S.mg "abs"=none∧S.mb "abs"=some (.builtin "abs"):=⟨mg_none_of hin T.g (by rw [hK];kernel_rfl),(T.builtins _ (by decide)).trans (by decide +kernel)⟩
      have b_list:S.mg "list"=none∧S.mb "list"=some (.type "list"):=⟨mg_none_of hin T.g (by rw [hK];kernel_rfl),(T.builtins _ (by decide)).trans (by decide +kernel)⟩
      have b_range:S.mg "range"=none∧S.mb "range"=some (.type "range"):=⟨mg_none_of hin T.g (by rw [hK];kernel_rfl),(T.builtins _ (by decide)).trans (by decide +kernel)⟩
      have k_Window:S.mg "Window"=some (.ref S.CW)∧keepIn S.K (.ref S.CW)=true∧makesIn S.K S.CW=true∧findIn S.K (.ref S.CW) "__init__"=some (some (.ref 69))∧isFn S.K (.ref 69)=true:=⟨by rw [hC1];exact mg_of hin T.g (by rw [hK];kernel_rfl),by rw [hK,hC1];kernel_rfl,by rw [hK,hC1];kernel_rfl,by rw [hK,hC1];kernel_rfl,by rw [hK];kernel_rfl⟩
      have k_WindowTree:S.mg "WindowTree"=some (.ref S.CT)∧keepIn S.K (.ref S.CT)=true∧makesIn S.K S.CT=true∧findIn S.K (.ref S.CT) "__init__"=some (some (.ref 126))∧isFn S.K (.ref 126)=true:=⟨by rw [hC2];exact mg_of hin T.g (by rw [hK];kernel_rfl),by rw [hK,hC2];kernel_rfl,by rw [hK,hC2];kernel_rfl,by rw [hK,hC2];kernel_rfl,by rw [hK];kernel_rfl⟩
      have k_Rules:S.mg "Rules"=some (.ref S.CR)∧keepIn S.K (.ref S.CR)=true∧makesIn S.K S.CR=true∧findIn S.K (.ref S.CR) "__init__"=some (some (.ref 319))∧isFn S.K (.ref 319)=true:=⟨by rw [hC3];exact mg_of hin T.g (by rw [hK];kernel_rfl),by rw [hK,hC3];kernel_rfl,by rw [hK,hC3];kernel_rfl,by rw [hK,hC3];kernel_rfl,by rw [hK];kernel_rfl⟩
      have k_LispSignal:S.mg "LispSignal"=some (.ref S.CL):=by rw [hC4];exact mg_of hin T.g (by rw [hK];kernel_rfl)
      have at_:S.CW=107∧S.CT=178∧S.CR=322∧S.CL=52:=⟨hC1,hC2,hC3,hC4⟩
      have hPG:PG S:={ok:=ok,f_oldest_leaf:=f_oldest_leaf,g_oldest_leaf:=g_oldest_leaf,f_largest_leaf:=f_largest_leaf,g_largest_leaf:=g_largest_leaf,f_LispSignal_init:=f_LispSignal_init,f_Window_init:=f_Window_init,f_Window_size:=f_Window_size,m_Window_size:=m_Window_size,f_Window_set_size:=f_Window_set_size,m_Window_set_size:=m_Window_set_size,f_Window_place:=f_Window_place,m_Window_place:=m_Window_place,f_Window_shown:=f_Window_shown,m_Window_shown:=m_Window_shown,f_Window_show:=f_Window_show,m_Window_show:=m_Window_show,f_WindowTree_init:=f_WindowTree_init,f_WindowTree_fresh:=f_WindowTree_fresh,m_WindowTree_fresh:=m_WindowTree_fresh,f_WindowTree_window:=f_WindowTree_window,m_WindowTree_window:=m_WindowTree_window,f_WindowTree_leaf:=f_WindowTree_leaf,m_WindowTree_leaf:=m_WindowTree_leaf,f_WindowTree_touch:=f_WindowTree_touch,m_WindowTree_touch:=m_WindowTree_touch,f_WindowTree_select:=f_WindowTree_select,m_WindowTree_select:=m_WindowTree_select,f_WindowTree_least_leaf:=f_WindowTree_least_leaf,m_WindowTree_least_leaf:=m_WindowTree_least_leaf,f_along:=f_along,g_along:=g_along,f_sort_along:=f_sort_along,g_sort_along:=g_sort_along,f_leaves_under:=f_leaves_under,g_leaves_under:=g_leaves_under,f_leaves:=f_leaves,g_leaves:=g_leaves,f_windows_under:=f_windows_under,g_windows_under:=g_windows_under,f_replace_child:=f_replace_child,g_replace_child:=g_replace_child,f_least_size:=f_least_size,g_least_size:=g_least_size,f_set_tree_size:=f_set_tree_size,g_set_tree_size:=g_set_tree_size,f_set_places:=f_set_places,g_set_places:=g_set_places,f_wrong_window:=f_wrong_window,g_wrong_window:=g_wrong_window,f_tree_error:=f_tree_error,g_tree_error:=g_tree_error,f_split_parts:=f_split_parts,g_split_parts:=g_split_parts,f_combined:=f_combined,g_combined:=g_combined,f_split:=f_split,g_split:=g_split,f_joined:=f_joined,g_joined:=g_joined,f_split_below:=f_split_below,g_split_below:=g_split_below,f_split_right:=f_split_right,g_split_right:=g_split_right,f_Rules_init:=f_Rules_init,f_windows_of:=f_windows_of,g_windows_of:=g_windows_of,f_without:=f_without,g_without:=g_without,f_show_buffer:=f_show_buffer,g_show_buffer:=g_show_buffer,f_split_for:=f_split_for,g_split_for:=g_split_for,f_split_somewhere:=f_split_somewhere,g_split_somewhere:=g_split_somewhere,f_usable:=f_usable,g_usable:=g_usable,f_display_buffer:=f_display_buffer,g_display_buffer:=g_display_buffer,f_pop_to_buffer:=f_pop_to_buffer,g_pop_to_buffer:=g_pop_to_buffer,f_law_draw:=f_law_draw,g_law_draw:=g_law_draw,f_law_splits:=f_law_splits,g_law_splits:=g_law_splits,f_law_chosen:=f_law_chosen,g_law_chosen:=g_law_chosen,f_law:=f_law,g_law:=g_law,c_LEAF:=c_LEAF,c_COLUMN:=c_COLUMN,c_ROW:=c_ROW,c_WIDTH:=c_WIDTH,c_HEIGHT:=c_HEIGHT,b_len:=b_len,b_sum:=b_sum,b_max:=b_max,b_sorted:=b_sorted,b_abs:=b_abs,b_list:=b_list,b_range:=b_range,k_Window:=k_Window,k_WindowTree:=k_WindowTree,k_Rules:=k_Rules,k_LispSignal:=k_LispSignal,at_:=at_}
      have h52:=hin 52 _ (by rw [hK];rfl)
      have hEX:EX S:=D4w hin (by rw [hC4];exact h52) (by rw [hK];kernel_rfl) (by rw [hK];kernel_rfl) (by rw [hK];kernel_rfl) (by rw [hK];kernel_rfl) (by rw [hK];kernel_rfl) (by rw [hK];kernel_rfl)
      have hEK:EK S:={hEX with
        kp:=by rw [hK,hC4];kernel_rfl
        rg:=by
          have e:((["rows","columns"]:List Str).all fun f=>A9v S.K S.CR f)=true:=by rw [hK,hC3];kernel_rfl
          exact fun f hf=>List.all_eq_true.mp e f hf
        rs:=by
          have e:((["rows","columns"]:List Str).all fun f=>B2l S.K S.CR f)=true:=by rw [hK,hC3];kernel_rfl
          exact fun f hf=>List.all_eq_true.mp e f hf}
      exact⟨hPG,hEK⟩)
    obtain ⟨hG,hE⟩:=hGE (D3l PySem.Challenge.rw_np0073_01.row.prog W (hd.heap_1_39 W.params) (ghostOf s1.heap [(392,390)]) mg mb s1.os) rfl rfl rfl rfl rfl X' ⟨_,_,_,T'⟩
    obtain ⟨nn,hl⟩:=D0i hW hL
    refine join hG hE T' F' rfl hT9 N' ?a1 l0 hl hI (by omega) hg (fun s' k1 k2 k3 k4=>⟨⟨.inl ⟨_,.bool true,[],rfl,?a2,.bool true,?a3,fun _=>⟨List.nodup_nil,fun _ h=>by cases h⟩⟩,k1,k2,k3⟩,⟨k4,trivial⟩⟩)
    case a1=>exact hob
    case a2=>intro cls;rfl
    case a3=>exact D0a ns))
end Mine
end
theorem PySem.Challenge.cw_np0073_01_holds : PySem.Challenge.rw_np0073_01.Holds :=
  Mine.hd
